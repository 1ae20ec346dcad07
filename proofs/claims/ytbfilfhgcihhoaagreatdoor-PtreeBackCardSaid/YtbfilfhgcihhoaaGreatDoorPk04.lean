/-
  Walks: the lexer of the program: symbols and literals.
  Plain: sorting in place by swaps: insertion, merging by rotations. No program in sight.
  Walks: process trees: the library's stable sort, at trees.
  Walks: process trees: the library's merge in place, at trees.
  Walks: process trees: the library's stable sort, and equal neighbours left out, at trees.
  Walks: process trees: normal forms. Plain: their sizes.
  Process trees: their texts, in plain Lean.
  Walks: process trees: texts.
  Walks: reading a literal's text (package name).
  The engine: a struct in a box of its own with its place told, errors compared with nil, contracts out of the library's summaries. No program in sight.
  Walks: the lexer of the program: blanks and the next token.
-/
import Derived.WideLaws
import Derived.Test.YtbfilfhgcihhoaaGreatDoorPk03
import Derived.Test.YtbfilfhgcihhoaaGreatDoorPk01
import Derived.Test.YtbfilfhgcihhoaaGreatDoorMShelfT
namespace Go.Proofs.YtbfilfhgcihhoaaGreatDoor
open Go.RowKit Go.Cb Go.En
set_option linter.all false
set_option maxRecDepth 100000
theorem tEl54_PtO : ElT Tryz.prog 54 9 1 16 (.string ByteArray.empty) := ⟨Tryz.underlying54, by kernel_rfl, rfl, by decide⟩
theorem tNa9_PtO : NoAgg Tryz.prog 9 = true := by kernel_rfl
theorem tSl54_PtO : SlT Tryz.prog 54 9 1 = true := by kernel_rfl
def pSyms : PV := .sl 33 (syms.map pB)
set_option maxHeartbeats 4000000 in
theorem tkSymbols_e : AF Tryz.prog 123 [] (· = pSyms) := by
 refine AF.of_body 2 Tryz.func123 rfl Tryz.ntmps123 (Nat.le_of_ble_eq_true rfl) ?_
 intro w0 M0 vs hl hv
 obtain rfl := List.eq_nil_of_length_eq_zero hl
 clear hl hv
 refine nav ?_
 (refine aC_region ?_ <;> refine xL 0 q_assign ?_ <;> refine aL_end (nav ?_) <;> try dsimp only)
 (refine aC_region ?_ <;> (refine s_litn (xs := [_, _, _, _, _, _, _, _, _, _, _, _, _, _, _, _, _, _, _, _, _, _, _, _, _, _, _, _, _, _, _, _, _]) 1 tEl54_PtO fun h1 ho1 => ?_; refine aL_ent (En.freeze (l := 1) (t := 1) rfl rfl) fun _ => ?_) <;> refine xL 0 q_assign ?_ <;> refine aL_end (nav ?_) <;> try dsimp only)
 exact ret_shr (Tryz.results123) rfl rfl
theorem find_at {α : Type} {q : α → Bool} : ∀ {l : List α} {k : Nat} {x : α}, (∀ (j : Nat) (y : α), j < k → l[j]? = some y → q y = false) → l[k]? = some x → q x = true → l.find? q = some x
 | [], k, x, _, h, _ => by simp at h
 | y :: l, 0, x, _, h, hx => by simp at h; subst h; rw [List.find?_cons, hx]
 | y :: l, k + 1, x, h0, h, hx => by
   rw [List.find?_cons, h0 0 y (by omega) rfl]
   exact find_at (k := k) (fun j z hj hz => h0 (j + 1) z (by omega) (by simpa using hz)) (by simpa using h) hx
theorem find_no {α : Type} {q : α → Bool} {l : List α} (h : ∀ (j : Nat) (y : α), l[j]? = some y → q y = false) : l.find? q = none := by
 rw [List.find?_eq_none]
 intro x hx
 obtain ⟨j, hj⟩ := List.getElem?_of_mem hx
 rw [h j x hj]; exact Bool.false_ne_true
theorem tkSymbol_e (l : List UInt8) (hl : l.length ≤ 1000000) : AF Tryz.prog 85 [pB l] (· = .tup [pB ((symB l).getD []), pBool (symB l).isSome]) := by
 have hsl : syms.length = 33 := rfl
 refine AF.of_body 17 Tryz.func85 rfl Tryz.ntmps85 (Nat.le_of_ble_eq_true rfl) ?_
 intro w0 M0 vs hl hv
 obtain ⟨v0, rfl⟩ := len1 hl
 obtain rfl := hv 0 _ _ rfl rfl
 clear hl hv
 refine nav ?_
 (refine aC_region ?_ <;> refine xL 2 q_assign ?_ <;> refine xL 3 q_assign ?_ <;> refine aL_end (nav ?_) <;> try dsimp only)
 (refine aC_region ?_ <;> (refine cS 6 (cA (Tryz.call123) tkSymbols_e) fun v6 hv6 => ?_; refine aL_ent (reslot (t := 6) (p' := .sl 33 (syms.map pB)) rfl rfl) fun _ => ?_) <;> refine xL 7 (q_len tSl54_PtO) ?_ <;> refine xL 8 q_move ?_ <;> refine aL_end (nav ?_) <;> try dsimp only)
 refine aC_loop (ι := { k : Nat // k ≤ 33 ∧ ∀ (j : Nat) (y : List UInt8), j < k → syms[j]? = some y → y.isPrefixOf l = false }) (fun k => ⟨[(0, _, _), (6, _, _), (7, _, _), (8, .int .i64 k.1, pInt k.1)], []⟩) (fun k => 33 - k.1) ⟨0, Nat.zero_le _, fun j d hj => absurd hj (Nat.not_lt_zero _)⟩ (fun a w H => H.weaken ⟨rfl, rfl, rfl, rfl, trivial⟩ trivial) ?_
 rintro ⟨k, hk, hp⟩
 dsimp only
 try dsimp only at hk hp
 refine nav ?_
 (refine aC_region ?_ <;> refine xL 9 q_lss ?_ <;> refine aL_end (nav ?_) <;> try dsimp only)
 (first | refine cCd ?_ ?_ | refine cC ?_ ?_) <;> intro hb9
 · first
   | exact Bool.noConfusion hb9
   | (
    obtain ⟨x, hx⟩ := get_some (l := syms) (i := k) (by rw [hsl]; omega)
    have e1 := map_at (f := pB) hx
    have hxl := syms_len (List.mem_of_getElem? hx)
    refine nav ?_
    (refine aC_region ?_ <;> refine xL 10 (q_idxN tSl54_PtO) ?_ <;> (refine yL 11 (q_ld tNa9_PtO) fun v11 hv11 => ?_; cases hv11) <;> refine xL 5 q_assign ?_ <;> refine aL_end (nav ?_) <;> try dsimp only)
    (refine aC_region ?_ <;> refine xL 12 q_move ?_ <;> refine xL 13 q_move ?_ <;> (refine cS 14 (cA Tryz.call119 (strPrefix_e l x hl (by omega))) fun v14 hv14 => ?_; cases hv14) <;> refine aL_end (nav ?_) <;> try dsimp only)
    (first | refine cCd ?_ ?_ | refine cC ?_ ?_) <;> intro hb14
    · first
      | exact Bool.noConfusion hb14
      | (
       refine nav ?_
       (refine aC_region ?_ <;> refine xL 15 q_move ?_ <;> refine xL 2 q_assign ?_ <;> refine xL 3 q_assign ?_ <;> refine aL_end (nav ?_) <;> try dsimp only)
       refine ret_ss (Tryz.results85) rfl rfl ?_
       rw [show symB l = some x from find_at hp hx hb14]; rfl)
    · first
      | exact Bool.noConfusion hb14
      | (
       refine nav ?_
       (refine aC_region ?_ <;> refine xL 16 q_add ?_ <;> refine xL 8 q_move ?_ <;> refine aL_end (nav ?_) <;> try dsimp only)
       refine aN_again (
        ⟨k + 1, by omega, fun j y hj hy => by
         rcases Nat.lt_or_ge j k with h | h
         · exact hp j y h hy
         · obtain rfl : j = k := by omega
           rw [hx] at hy; cases hy; exact hb14⟩
        ) (by dsimp only; omega) ⟨rfl, rfl, rfl, rfl, trivial⟩ trivial))
 · first
   | exact Bool.noConfusion hb9
   | (
    refine nav ?_
    (refine aC_region ?_ <;> refine xL 2 q_assign ?_ <;> refine xL 3 q_assign ?_ <;> refine aL_end (nav ?_) <;> try dsimp only)
    refine ret_ss (Tryz.results85) rfl rfl ?_
    rw [show symB l = none from find_no fun j y hy => hp j y (by have := lt_of_get hy; rw [hsl] at this; omega) hy]; rfl)
def ltAdd (k : Nat) (pre : List UInt8) : Lt → Lt
 | .ok n t => .ok (n + k) (pre ++ t)
 | .err e => .err e
theorem ltAdd_add (k j : Nat) (p q : List UInt8) (x : Lt) : ltAdd k p (ltAdd j q x) = ltAdd (k + j) (p ++ q) x := by
 cases x with
 | ok n t => simp only [ltAdd, List.append_assoc]; rw [show n + j + k = n + (k + j) by omega]
 | err e => rfl
theorem lit_end {c : UInt8} {m : List UInt8} (h : (c.toNat : Int) = 34) : litB (c :: m) = .ok 1 [] := by
 rw [litB.eq_def]; simp only; rw [if_pos (by omega)]
theorem lit_bad {c : UInt8} {m : List UInt8} (h0 : ¬ (c.toNat : Int) = 34) (h : (c.toNat : Int) < 32 ∨ 126 < (c.toNat : Int)) : litB (c :: m) = .err 3 := by
 rw [litB.eq_def]; simp only; rw [if_neg (by omega), if_pos (by omega)]
theorem lit_plain {c : UInt8} {m : List UInt8} (h0 : ¬ (c.toNat : Int) = 34) (h1 : ¬ (c.toNat : Int) < 32) (h2 : ¬ 126 < (c.toNat : Int)) (h : ¬ (c.toNat : Int) = 92) : litB (c :: m) = ltAdd 1 [c] (litB m) := by
 rw [litB.eq_def]; simp only; rw [if_neg (by omega), if_neg (by omega), if_neg (by omega)]
 cases litB m <;> rfl
theorem lit_esc0 {c : UInt8} (h : (c.toNat : Int) = 92) : litB [c] = .err 4 := by
 rw [litB.eq_def]; simp only; rw [if_neg (by omega), if_neg (by omega), if_pos (by omega)]
theorem lit_esc {c d : UInt8} {m : List UInt8} (h : (c.toNat : Int) = 92) (hd : (d.toNat : Int) = 34 ∨ (d.toNat : Int) = 92) : litB (c :: d :: m) = ltAdd 2 [d] (litB m) := by
 rw [litB.eq_def]; simp only; rw [if_neg (by omega), if_neg (by omega), if_pos (by omega), if_pos (by omega)]
 cases litB m <;> rfl
theorem lit_escn {c d : UInt8} {m : List UInt8} (h : (c.toNat : Int) = 92) (hd : ¬ (d.toNat : Int) = 34) (hd2 : ¬ (d.toNat : Int) = 92) : litB (c :: d :: m) = .err 3 := by
 rw [litB.eq_def]; simp only; rw [if_neg (by omega), if_neg (by omega), if_pos (by omega), if_neg (by omega)]
theorem drop_get {α : Type} {l : List α} {k : Nat} {x : α} (h : l[k]? = some x) : l.drop k = x :: l.drop (k + 1) := by
 rw [List.drop_eq_getElem_cons (lt_of_get h), (List.getElem?_eq_some_iff.1 h).2]
theorem drop_all {α : Type} {l : List α} {k : Nat} (h : l.length ≤ k) : l.drop k = [] := List.drop_eq_nil_of_le h
def ltP : Lt → PV
 | .ok n _ => .tup [pInt (n + 1), pInt 0]
 | .err e => .tup [pInt 0, pInt e]
theorem tkLiteral_e (a : UInt8) (m : List UInt8) (hl : m.length ≤ 100000) : AF Tryz.prog 83 [pB (a :: m)] (· = ltP (litB m)) := by
 have hsz := bst_size (a :: m)
 rw [List.length_cons] at hsz
 refine AF.of_body 50 Tryz.func83 rfl Tryz.ntmps83 (Nat.le_of_ble_eq_true rfl) ?_
 intro w0 M0 vs hl hv
 obtain ⟨v0, rfl⟩ := len1 hl
 obtain rfl := hv 0 _ _ rfl rfl
 clear hl hv
 refine nav ?_
 (refine aC_region ?_ <;> refine xL 2 q_assign ?_ <;> refine xL 3 q_assign ?_ <;> refine aL_end (nav ?_) <;> try dsimp only)
 (refine aC_region ?_ <;> refine xL 4 q_assign ?_ <;> refine aL_end (nav ?_) <;> try dsimp only)
 refine aC_loop (ι := { k : Nat // k ≤ m.length ∧ ∃ pre, litB m = ltAdd k pre (litB (m.drop k)) }) (fun k => ⟨[(0, _, _), (4, .int .i64 ((k.1 : Int) + 1), pInt ((k.1 : Int) + 1))], []⟩) (fun k => m.length - k.1) ⟨0, Nat.zero_le _, [], by rw [List.drop_zero]; cases litB m <;> rfl⟩ (fun a w H => H.weaken ⟨rfl, rfl, trivial⟩ trivial) ?_
 rintro ⟨k, hk, pre, hp⟩
 dsimp only
 try dsimp only at hk hp
 refine nav ?_
 (refine aC_region ?_ <;> refine xL 5 q_move ?_ <;> refine xL 6 q_move ?_ <;> refine xL 7 (q_slen Tryz.underlying9) ?_ <;> refine xL 8 q_lss ?_ <;> refine aL_end (nav ?_) <;> try dsimp only)
 (first | refine cCd ?_ ?_ | refine cC ?_ ?_) <;> intro hb8
 · first
   | exact Bool.noConfusion hb8
   | (
    obtain ⟨c, hc⟩ := get_byte (l := m) (i := k) (by omega)
    have hcx : (bst (a :: m)).data[((k : Int) + 1).toNat]? = some c := by
     rw [show ((k : Int) + 1).toNat = k + 1 by omega, bst_get]; exact hc
    have hd := drop_get hc
    rw [hd] at hp
    refine nav ?_
    (refine aC_region ?_ <;> refine xL 12 q_move ?_ <;> refine xL 13 q_move ?_ <;> refine xL 14 (q_index Tryz.underlying9 rfl rfl rfl (by omega) hcx) ?_ <;> refine xL 15 q_eql ?_ <;> refine xL 11 q_assign ?_ <;> refine aL_end (nav ?_) <;> try dsimp only)
    (first | refine cCd ?_ ?_ | refine cC ?_ ?_) <;> intro hb11
    · first
      | exact Bool.noConfusion hb11
      | (
       refine nav ?_
       (refine aC_region ?_ <;> refine xL 16 q_move ?_ <;> refine xL 17 q_add ?_ <;> refine xL 2 q_assign ?_ <;> refine xL 3 q_assign ?_ <;> refine aL_end (nav ?_) <;> try dsimp only)
       refine ret_ss (Tryz.results83) rfl rfl ?_
       rw [hp, lit_end hb11]
       show PV.tup [pInt ((k : Int) + 1 + 1), pInt 0] = PV.tup [pInt (((1 + k : Nat) : Int) + 1), pInt 0]
       rw [show (((1 + k : Nat) : Int) + 1) = (k : Int) + 1 + 1 by omega])
    · first
      | exact Bool.noConfusion hb11
      | (
       refine nav ?_
       (refine aC_region ?_ <;> refine xL 19 q_move ?_ <;> refine xL 20 q_move ?_ <;> refine xL 21 (q_index Tryz.underlying9 rfl rfl rfl (by omega) hcx) ?_ <;> refine xL 22 q_lss ?_ <;> refine xL 23 q_move ?_ <;> (refine bLd 23 (fun hb23 => ?_) (fun hb23 => ?_) <;> (first | refine kL 24 ?_ | refine xL 24 q_move ?_)) <;> (first | refine kL 25 ?_ | refine xL 25 q_move ?_) <;> (first | refine kL 26 ?_ | refine kL 26 ?_ | refine xL 26 (q_index Tryz.underlying9 rfl rfl rfl (by omega) hcx) ?_) <;> (first | refine kL 27 ?_ | refine xL 27 q_gtr ?_) <;> refine xL 28 q_pick ?_ <;> refine xL 18 q_assign ?_ <;> refine aL_end (nav ?_) <;> try dsimp only) <;> (
        (first | refine cCd ?_ ?_ | refine cC ?_ ?_) <;> intro hb18
        · first
          | exact Bool.noConfusion hb18
          | (
           refine nav ?_
           (refine aC_region ?_ <;> refine xL 2 q_assign ?_ <;> refine xL 3 q_assign ?_ <;> refine aL_end (nav ?_) <;> try dsimp only)
           refine ret_ss (Tryz.results83) rfl rfl ?_
           rw [hp, lit_bad (by omega) (by omega)]; rfl)
        · first
          | exact Bool.noConfusion hb18
          | (
           refine nav ?_
           (refine aC_region ?_ <;> refine xL 30 q_move ?_ <;> refine xL 31 q_move ?_ <;> refine xL 32 (q_index Tryz.underlying9 rfl rfl rfl (by omega) hcx) ?_ <;> refine xL 33 q_eql ?_ <;> refine xL 29 q_assign ?_ <;> refine aL_end (nav ?_) <;> try dsimp only)
           (first | refine cCd ?_ ?_ | refine cC ?_ ?_) <;> intro hb29
           · first
             | exact Bool.noConfusion hb29
             | (
              refine nav ?_
              (refine aC_region ?_ <;> refine xL 34 q_move ?_ <;> refine xL 35 q_add ?_ <;> refine xL 4 q_assign ?_ <;> refine aL_end (nav ?_) <;> try dsimp only)
              (refine aC_region ?_ <;> refine xL 36 q_move ?_ <;> refine xL 37 q_move ?_ <;> refine xL 38 (q_slen Tryz.underlying9) ?_ <;> refine xL 39 q_eql ?_ <;> refine aL_end (nav ?_) <;> try dsimp only)
              (first | refine cCd ?_ ?_ | refine cC ?_ ?_) <;> intro hb39
              · first
                | exact Bool.noConfusion hb39
                | (
                 refine nav ?_
                 (refine aC_region ?_ <;> refine xL 2 q_assign ?_ <;> refine xL 3 q_assign ?_ <;> refine aL_end (nav ?_) <;> try dsimp only)
                 refine ret_ss (Tryz.results83) rfl rfl ?_
                 rw [hp, drop_all (show m.length ≤ k + 1 by omega), lit_esc0 (by omega)]; rfl)
              · first
                | exact Bool.noConfusion hb39
                | (
                 obtain ⟨d, hdx⟩ := get_byte (l := m) (i := k + 1) (by omega)
                 have hdy : (bst (a :: m)).data[((k : Int) + 1 + 1).toNat]? = some d := by
                  rw [show ((k : Int) + 1 + 1).toNat = k + 1 + 1 by omega, bst_get]; exact hdx
                 have hd2 := drop_get hdx
                 rw [hd2] at hp
                 refine nav ?_
                 (refine aC_region ?_ <;> refine xL 40 q_move ?_ <;> refine xL 41 q_move ?_ <;> refine xL 42 (q_index Tryz.underlying9 rfl rfl rfl (by omega) hdy) ?_ <;> refine xL 43 q_neq ?_ <;> refine xL 44 q_move ?_ <;> (refine bLd 44 (fun hb44 => ?_) (fun hb44 => ?_) <;> (first | refine kL 45 ?_ | refine xL 45 q_move ?_)) <;> (first | refine kL 46 ?_ | refine xL 46 q_move ?_) <;> (first | refine kL 47 ?_ | refine kL 47 ?_ | refine xL 47 (q_index Tryz.underlying9 rfl rfl rfl (by omega) hdy) ?_) <;> (first | refine kL 48 ?_ | refine xL 48 q_neq ?_) <;> refine xL 49 q_pick ?_ <;> refine aL_end (nav ?_) <;> try dsimp only) <;> (
                  (first | refine cCd ?_ ?_ | refine cC ?_ ?_) <;> intro hb49
                  · first
                    | exact Bool.noConfusion hb49
                    | (
                     refine nav ?_
                     (refine aC_region ?_ <;> refine xL 2 q_assign ?_ <;> refine xL 3 q_assign ?_ <;> refine aL_end (nav ?_) <;> try dsimp only)
                     refine ret_ss (Tryz.results83) rfl rfl ?_
                     rw [hp, lit_escn (by omega) (by omega) (by omega)]; rfl)
                  · first
                    | exact Bool.noConfusion hb49
                    | (
                     rw [lit_esc (by omega) (by omega), ltAdd_add] at hp
                     refine nav ?_
                     (refine aC_region ?_ <;> refine xL 9 q_move ?_ <;> refine xL 10 q_add ?_ <;> refine xL 4 q_assign ?_ <;> refine aL_end (nav ?_) <;> try dsimp only)
                     first
                      | (exact aN_again (
                          ⟨k + 2, by omega, _, hp⟩
                          ) (by dsimp only; omega) ⟨rfl, rfl, trivial⟩ trivial)
                      | (exact aN_again (
                          ⟨k + 1, by omega, _, hp⟩
                          ) (by dsimp only; omega) ⟨rfl, rfl, trivial⟩ trivial)))))
           · first
             | exact Bool.noConfusion hb29
             | (
              rw [lit_plain (by omega) (by omega) (by omega) (by omega), ltAdd_add] at hp
              refine nav ?_
              (refine aC_region ?_ <;> refine xL 9 q_move ?_ <;> refine xL 10 q_add ?_ <;> refine xL 4 q_assign ?_ <;> refine aL_end (nav ?_) <;> try dsimp only)
              first
               | (exact aN_again (
                   ⟨k + 2, by omega, _, hp⟩
                   ) (by dsimp only; omega) ⟨rfl, rfl, trivial⟩ trivial)
               | (exact aN_again (
                   ⟨k + 1, by omega, _, hp⟩
                   ) (by dsimp only; omega) ⟨rfl, rfl, trivial⟩ trivial))))))
 · first
   | exact Bool.noConfusion hb8
   | (
    refine nav ?_
    (refine aC_region ?_ <;> refine xL 2 q_assign ?_ <;> refine xL 3 q_assign ?_ <;> refine aL_end (nav ?_) <;> try dsimp only)
    refine ret_ss (Tryz.results83) rfl rfl ?_
    rw [hp, drop_all (by omega)]; rfl)
section
variable {α : Type}
def swp (l : List α) (i j : Nat) : List α := match l[i]?, l[j]? with
 | some x, some y => (l.set i y).set j x
 | _, _ => l
theorem swp_eq {l : List α} {i j : Nat} {x y : α} (hi : l[i]? = some x) (hj : l[j]? = some y) : swp l i j = (l.set i y).set j x := by unfold swp; rw [hi, hj]
theorem swp_len (l : List α) (i j : Nat) : (swp l i j).length = l.length := by unfold swp; split <;> simp
theorem swp_get {l : List α} {i j : Nat} (hi : i < l.length) (hj : j < l.length) (k : Nat) : (swp l i j)[k]? = if k = j then l[i]? else if k = i then l[j]? else l[k]? := by
 rw [swp_eq (List.getElem?_eq_getElem hi) (List.getElem?_eq_getElem hj), List.getElem?_set, List.getElem?_set, List.length_set]
 by_cases h1 : k = j
 · subst h1; simp [hj, List.getElem?_eq_getElem hi]
 · rw [if_neg (fun h => h1 h.symm), if_neg h1]
   by_cases h2 : k = i
   · subst h2; simp [hi, List.getElem?_eq_getElem hj]
   · rw [if_neg (fun h => h2 h.symm), if_neg h2]
theorem swp_perm (l : List α) (i j : Nat) : (swp l i j).Perm l := by
 unfold swp
 split
 · rename_i x y hx hy
   obtain ⟨hi, rfl⟩ := List.getElem?_eq_some_iff.1 hx
   obtain ⟨hj, rfl⟩ := List.getElem?_eq_some_iff.1 hy
   exact List.set_set_perm hi hj
 · exact List.Perm.refl _
inductive Sw (a b : Nat) : List α → List α → Prop
 | refl (l : List α) : Sw a b l l
 | step {l m : List α} (i j : Nat) (h : Sw a b l m) (hi : a ≤ i) (hi' : i < b) (hj : a ≤ j) (hj' : j < b) (hb : b ≤ l.length) : Sw a b l (swp m i j)
theorem Sw.len {a b : Nat} {l m : List α} (h : Sw a b l m) : m.length = l.length := by
 induction h with
 | refl => rfl
 | step i j h _ _ _ _ _ ih => rw [swp_len, ih]
theorem Sw.perm {a b : Nat} {l m : List α} (h : Sw a b l m) : m.Perm l := by
 induction h with
 | refl => exact List.Perm.refl _
 | step i j h _ _ _ _ _ ih => exact (swp_perm _ _ _).trans ih
theorem Sw.out {a b : Nat} {l m : List α} (h : Sw a b l m) {k : Nat} (hk : k < a ∨ b ≤ k) : m[k]? = l[k]? := by
 induction h with
 | refl => rfl
 | step i j h hi hi' hj hj' hb ih =>
   rw [swp_get (by rw [h.len]; omega) (by rw [h.len]; omega), if_neg (by omega), if_neg (by omega), ih]
theorem Sw.mem {a b : Nat} {l m : List α} (h : Sw a b l m) : ∀ {k : Nat} {x : α}, a ≤ k → k < b → m[k]? = some x → ∃ k', a ≤ k' ∧ k' < b ∧ l[k']? = some x := by
 induction h with
 | refl => exact fun h1 h2 h3 => ⟨_, h1, h2, h3⟩
 | step i j h hi hi' hj hj' hb ih =>
   intro k x h1 h2 h3
   rw [swp_get (by rw [h.len]; omega) (by rw [h.len]; omega)] at h3
   split at h3
   · exact ih hi hi' h3
   · split at h3
     · exact ih hj hj' h3
     · exact ih h1 h2 h3
theorem Sw.mono {a b a' b' : Nat} {l m : List α} (h : Sw a b l m) (ha : a' ≤ a) (hb : b ≤ b') (hl : b' ≤ l.length) : Sw a' b' l m := by
 induction h with
 | refl => exact .refl _
 | step i j h hi hi' hj hj' hb' ih => exact .step i j ih (by omega) (by omega) (by omega) (by omega) hl
theorem Sw.trans {a b : Nat} {l m n : List α} (h : Sw a b l m) (h' : Sw a b m n) : Sw a b l n := by
 induction h' with
 | refl => exact h
 | step i j h2 hi hi' hj hj' hb ih => exact .step i j ih hi hi' hj hj' (by rw [← h.len]; exact hb)
theorem Sw.one {a b i j : Nat} {l : List α} (hi : a ≤ i) (hi' : i < b) (hj : a ≤ j) (hj' : j < b) (hb : b ≤ l.length) : Sw a b l (swp l i j) := .step i j (.refl l) hi hi' hj hj' hb
variable (le : α → α → Prop)
def Srt (a b : Nat) (l : List α) : Prop := ∀ i j x y, a ≤ i → i < j → j < b → l[i]? = some x → l[j]? = some y → le x y
theorem Srt.sub {a b a' b' : Nat} {l : List α} (h : Srt le a b l) (ha : a ≤ a') (hb : b' ≤ b) : Srt le a' b' l := fun i j x y h1 h2 h3 => h i j x y (by omega) h2 (by omega)
theorem Srt.small {a b : Nat} (l : List α) (h : b ≤ a + 1) : Srt le a b l := fun i j x y h1 h2 h3 => by omega
theorem Srt.ext {a b : Nat} {l m : List α} (h : Srt le a b l) (he : ∀ k, a ≤ k → k < b → m[k]? = l[k]?) : Srt le a b m := fun i j x y h1 h2 h3 hx hy => h i j x y h1 h2 h3 (by rw [← he i (by omega) (by omega)]; exact hx) (by rw [← he j (by omega) (by omega)]; exact hy)
theorem Srt.eqv (hr : ∀ x, le x x) {a b : Nat} {l : List α} (h : Srt le a b l) {i j : Nat} {x y : α} (h1 : a ≤ i) (h2 : i ≤ j) (h3 : j < b) (hx : l[i]? = some x) (hy : l[j]? = some y) : le x y := by
 rcases Nat.lt_or_ge i j with h4 | h4
 · exact h i j x y h1 h4 h3 hx hy
 · have : i = j := by omega
   subst this; rw [hx] at hy; cases hy; exact hr x
def InsI (a i j : Nat) (l : List α) : Prop := (∀ p q x y, a ≤ p → p < q → q ≤ i → p ≠ j → q ≠ j → l[p]? = some x → l[q]? = some y → le x y) ∧ (∀ q x y, j < q → q ≤ i → l[j]? = some x → l[q]? = some y → le x y)
theorem ins_start {a i : Nat} {l : List α} (h : Srt le a i l) : InsI le a i i l := ⟨fun p q x y h1 h2 h3 h4 h5 => h p q x y h1 h2 (by omega), fun q x y h1 h2 => by omega⟩
theorem ins_step {a i j : Nat} {l : List α} (h : InsI le a i (j + 1) l) (ha : a ≤ j) (hi : j + 1 ≤ i) (hl : i < l.length) {x y : α} (hx : l[j + 1]? = some x) (hy : l[j]? = some y) (hle : le x y) : InsI le a i j (swp l (j + 1) j) := by
 have hg := swp_get (l := l) (i := j + 1) (j := j) (by omega) (by omega)
 refine ⟨fun p q u v h1 h2 h3 h4 h5 hu hv => ?_, fun q u v h1 h2 hu hv => ?_⟩
 · rw [hg] at hu hv
   rw [if_neg h4] at hu
   rw [if_neg h5] at hv
   by_cases e1 : p = j + 1
   · rw [if_pos e1] at hu
     rw [if_neg (by omega)] at hv
     exact h.1 j q u v ha (by omega) h3 (by omega) (by omega) hu hv
   · rw [if_neg e1] at hu
     by_cases e2 : q = j + 1
     · rw [if_pos e2] at hv
       exact h.1 p j u v h1 (by omega) (by omega) (by omega) (by omega) hu hv
     · rw [if_neg e2] at hv
       exact h.1 p q u v h1 h2 h3 (by omega) (by omega) hu hv
 · rw [hg, if_pos rfl] at hu
   rw [hg, if_neg (by omega)] at hv
   by_cases e2 : q = j + 1
   · rw [if_pos e2] at hv
     rw [hu] at hx; rw [hv] at hy; cases hx; cases hy; exact hle
   · rw [if_neg e2] at hv
     exact h.2 q u v (by omega) h2 hu hv
theorem ins_end (hr : ∀ x, le x x) (ht : ∀ x y z, le x y → le y z → le x z) {a i j : Nat} {l : List α} (h : InsI le a i j l) (hj : a ≤ j) (hji : j ≤ i) (hl : i < l.length) (he : j = a ∨ ∃ k x y, j = k + 1 ∧ l[k]? = some x ∧ l[j]? = some y ∧ le x y) : Srt le a (i + 1) l := by
 intro p q x y h1 h2 h3 hx hy
 by_cases e1 : p = j
 · subst e1; exact h.2 q x y h2 (by omega) hx hy
 · by_cases e2 : q = j
   · subst e2
     rcases he with he | ⟨k, u, v, he, hu, hv, hle⟩
     · omega
     · rw [hy] at hv; cases hv
       by_cases e3 : p = k
       · subst e3; rw [hx] at hu; cases hu; exact hle
       · exact ht _ _ _ (h.1 p k x u h1 (by omega) (by omega) e1 (by omega) hx hu) hle
   · exact h.1 p q x y h1 h2 (by omega) e1 e2 hx hy
def Mov (a b k i : Nat) (l : List α) : Prop := (∀ p q x y, a ≤ p → p < q → q < b → p ≠ k → q ≠ k → l[p]? = some x → l[q]? = some y → le x y) ∧ ∀ q x y, a ≤ q → q < b → q ≠ k → l[k]? = some x → l[q]? = some y → if q < i then le y x else le x y
theorem mov_right {a b k i : Nat} {l : List α} (h : Mov le a b k i l) (ha : a ≤ k) (hk : k + 1 < i) (hi : i ≤ b) (hl : b ≤ l.length) : Mov le a b (k + 1) i (swp l k (k + 1)) := by
 have hg := swp_get (l := l) (i := k) (j := k + 1) (by omega) (by omega)
 refine ⟨fun p q u v h1 h2 h3 h4 h5 hu hv => ?_, fun q u v h1 h2 h3 hu hv => ?_⟩
 · rw [hg, if_neg h4] at hu
   rw [hg, if_neg h5] at hv
   by_cases e1 : p = k
   · rw [if_pos e1] at hu
     rw [if_neg (by omega)] at hv
     exact h.1 (k + 1) q u v (by omega) (by omega) h3 (by omega) (by omega) hu hv
   · rw [if_neg e1] at hu
     by_cases e2 : q = k
     · rw [if_pos e2] at hv
       exact h.1 p (k + 1) u v h1 (by omega) (by omega) (by omega) (by omega) hu hv
     · rw [if_neg e2] at hv
       exact h.1 p q u v h1 h2 h3 e1 e2 hu hv
 · rw [hg, if_pos rfl] at hu
   rw [hg, if_neg h3] at hv
   by_cases e2 : q = k
   · rw [if_pos e2] at hv
     have := h.2 (k + 1) u v (by omega) (by omega) (by omega) hu hv
     rw [if_pos (by omega)] at this
     rw [if_pos (by omega)]; exact this
   · rw [if_neg e2] at hv
     exact h.2 q u v h1 h2 e2 hu hv
theorem mov_right_end {a b k i : Nat} {l : List α} (h : Mov le a b k i l) (hk : i = k + 1) : Srt le a b l := by
 intro p q x y h1 h2 h3 hx hy
 by_cases e1 : p = k
 · subst e1
   have := h.2 q x y (by omega) h3 (by omega) hx hy
   rw [if_neg (by omega)] at this; exact this
 · by_cases e2 : q = k
   · subst e2
     have := h.2 p y x h1 (by omega) (by omega) hy hx
     rw [if_pos (by omega)] at this; exact this
   · exact h.1 p q x y h1 h2 h3 e1 e2 hx hy
theorem mov_left {a b k i : Nat} {l : List α} (h : Mov le a b (k + 1) i l) (hi : a ≤ i) (hik : i ≤ k) (hk : k + 1 < b) (hl : b ≤ l.length) : Mov le a b k i (swp l (k + 1) k) := by
 have hg := swp_get (l := l) (i := k + 1) (j := k) (by omega) (by omega)
 refine ⟨fun p q u v h1 h2 h3 h4 h5 hu hv => ?_, fun q u v h1 h2 h3 hu hv => ?_⟩
 · rw [hg, if_neg h4] at hu
   rw [hg, if_neg h5] at hv
   by_cases e1 : p = k + 1
   · rw [if_pos e1] at hu
     rw [if_neg (by omega)] at hv
     exact h.1 k q u v (by omega) (by omega) h3 (by omega) (by omega) hu hv
   · rw [if_neg e1] at hu
     by_cases e2 : q = k + 1
     · rw [if_pos e2] at hv
       exact h.1 p k u v h1 (by omega) (by omega) (by omega) (by omega) hu hv
     · rw [if_neg e2] at hv
       exact h.1 p q u v h1 h2 h3 e1 e2 hu hv
 · rw [hg, if_pos rfl] at hu
   rw [hg, if_neg h3] at hv
   by_cases e2 : q = k + 1
   · rw [if_pos e2] at hv
     have := h.2 k u v (by omega) (by omega) (by omega) hu hv
     rw [if_neg (by omega)] at this
     rw [if_neg (by omega)]; exact this
   · rw [if_neg e2] at hv
     exact h.2 q u v h1 h2 e2 hu hv
theorem mov_left_end {a b k : Nat} {l : List α} (h : Mov le a b k k l) : Srt le a b l := by
 intro p q x y h1 h2 h3 hx hy
 by_cases e1 : p = k
 · subst e1
   have := h.2 q x y (by omega) h3 (by omega) hx hy
   rw [if_neg (by omega)] at this; exact this
 · by_cases e2 : q = k
   · subst e2
     have := h.2 p y x h1 (by omega) (by omega) hy hx
     rw [if_pos (by omega)] at this; exact this
   · exact h.1 p q x y h1 h2 h3 e1 e2 hx hy
theorem mov_first {a b i : Nat} {l : List α} (hs : Srt le (a + 1) b l) (hi : a + 1 ≤ i) (h1 : ∀ q x y, a + 1 ≤ q → q < i → l[a]? = some x → l[q]? = some y → le y x) (h2 : ∀ q x y, i ≤ q → q < b → l[a]? = some x → l[q]? = some y → le x y) : Mov le a b a i l :=
 ⟨fun p q x y h3 h4 h5 h6 h7 => hs p q x y (by omega) h4 h5, fun q x y h3 h4 h5 hx hy => by
  by_cases h6 : q < i
  · rw [if_pos h6]; exact h1 q x y (by omega) h6 hx hy
  · rw [if_neg h6]; exact h2 q x y (by omega) h4 hx hy⟩
theorem mov_last {a m i : Nat} {l : List α} (hs : Srt le a m l) (hi : i ≤ m) (h1 : ∀ q x y, a ≤ q → q < i → l[m]? = some x → l[q]? = some y → le y x) (h2 : ∀ q x y, i ≤ q → q < m → l[m]? = some x → l[q]? = some y → le x y) : Mov le a (m + 1) m i l :=
 ⟨fun p q x y h3 h4 h5 h6 h7 => hs p q x y h3 h4 (by omega), fun q x y h3 h4 h5 hx hy => by
  by_cases h6 : q < i
  · rw [if_pos h6]; exact h1 q x y h3 h6 hx hy
  · rw [if_neg h6]; exact h2 q x y (by omega) (by omega) hx hy⟩
def rotI (a m b k : Nat) : Nat := if k < a ∨ b ≤ k then k else if k - a < b - m then m + (k - a) else a + (k - a - (b - m))
def srI (a b n k : Nat) : Nat := if a ≤ k ∧ k < a + n then b + (k - a) else if b ≤ k ∧ k < b + n then a + (k - b) else k
theorem rot_gt {m i j k : Nat} (hij : j < i) (him : i ≤ m) : srI (m - i) m j (rotI (m - i + j) m (m + j) k) = rotI (m - i) m (m + j) k := by
 unfold rotI srI
 (repeat' split) <;> omega
theorem rot_lt {m i j k : Nat} (hij : i < j) (him : i ≤ m) : srI (m - i) (m + j - i) i (rotI (m - i) m (m + j - i) k) = rotI (m - i) m (m + j) k := by
 unfold rotI srI
 (repeat' split) <;> omega
theorem rot_eq {m i k : Nat} (him : i ≤ m) : srI (m - i) m i k = rotI (m - i) m (m + i) k := by
 unfold rotI srI
 split <;> split <;> (try split) <;> (try split) <;> omega
theorem sr_step {l l0 : List α} {a b i n : Nat} (hi : i < n) (hab : a + n ≤ b) (hb : b + n ≤ l.length) (h : ∀ k, l[k]? = l0[srI a b i k]?) : ∀ k, (swp l (a + i) (b + i))[k]? = l0[srI a b (i + 1) k]? := by
 intro k
 rw [swp_get (by omega) (by omega), h, h, h]
 unfold srI
 by_cases e1 : k = b + i
 · subst e1
   rw [if_pos rfl, if_neg (by omega), if_neg (by omega), if_neg (by omega), if_pos (by omega)]
   congr 1; omega
 · rw [if_neg e1]
   by_cases e2 : k = a + i
   · subst e2
     rw [if_pos rfl, if_neg (by omega), if_neg (by omega), if_pos (by omega)]
     congr 1; omega
   · rw [if_neg e2]
     congr 1
     split <;> split <;> (try split) <;> (try split) <;> omega
theorem sr_zero (a b k : Nat) : srI a b 0 k = k := by unfold srI; split <;> (try split) <;> omega
def Thr (lo hi p s r : Nat) (l : List α) : Prop := lo ≤ s ∧ s ≤ r ∧ r ≤ hi ∧ (∀ c x y, lo ≤ c → c < s → l[c]? = some x → l[p - c]? = some y → le x y) ∧ (∀ c x y, r ≤ c → c < hi → l[c]? = some x → l[p - c]? = some y → le y x)
theorem thr_start {lo hi p : Nat} (l : List α) (h : lo ≤ hi) : Thr le lo hi p lo hi l := ⟨Nat.le_refl _, h, Nat.le_refl _, fun c x y h1 h2 => by omega, fun c x y h1 h2 => by omega⟩
section
variable {le}
theorem thr_up (hr : ∀ x, le x x) (ht : ∀ x y z, le x y → le y z → le x z) {a m b lo hi p s r c : Nat} {l : List α} (h : Thr le lo hi p s r l) (h1 : Srt le a m l) (h2 : Srt le m b l) (hc : s ≤ c) (hc' : c < r) (hlo : a ≤ lo) (hhi : hi ≤ m) (hp : p < lo + b) (hp' : m + hi ≤ p + 1) (hb : b ≤ l.length) {x y : α} (hx : l[c]? = some x) (hy : l[p - c]? = some y) (hle : le x y) : Thr le lo hi p (c + 1) r l := by
 obtain ⟨e1, e2, e3, e4, e5⟩ := h
 refine ⟨by omega, by omega, e3, fun k u v k1 k2 hu hv => ?_, e5⟩
 have a1 : le u x := h1.eqv le hr (by omega) (show k ≤ c by omega) (by omega) hu hx
 have a2 : le y v := h2.eqv le hr (by omega) (show p - c ≤ p - k by omega) (by omega) hy hv
 exact ht _ _ _ a1 (ht _ _ _ hle a2)
theorem thr_down (hr : ∀ x, le x x) (ht : ∀ x y z, le x y → le y z → le x z) {a m b lo hi p s r c : Nat} {l : List α} (h : Thr le lo hi p s r l) (h1 : Srt le a m l) (h2 : Srt le m b l) (hc : s ≤ c) (hc' : c < r) (hlo : a ≤ lo) (hhi : hi ≤ m) (hp : p < lo + b) (hp' : m + hi ≤ p + 1) (hb : b ≤ l.length) {x y : α} (hx : l[c]? = some x) (hy : l[p - c]? = some y) (hle : le y x) : Thr le lo hi p s c l := by
 obtain ⟨e1, e2, e3, e4, e5⟩ := h
 refine ⟨e1, by omega, by omega, e4, fun k u v k1 k2 hu hv => ?_⟩
 have a1 : le x u := h1.eqv le hr (by omega) (show c ≤ k by omega) (by omega) hx hu
 have a2 : le v y := h2.eqv le hr (by omega) (show p - k ≤ p - c by omega) (by omega) hv hy
 exact ht _ _ _ a2 (ht _ _ _ hle a1)
def loM (a m b : Nat) : Nat := if (a + b) / 2 < m then (a + b) / 2 + m - b else a
def hiM (a m b : Nat) : Nat := if (a + b) / 2 < m then (a + b) / 2 else m
theorem loM_ok {a m b : Nat} (h1 : a < m) (h2 : m < b) : a ≤ loM a m b ∧ loM a m b ≤ hiM a m b ∧ hiM a m b ≤ m ∧ (a + b) / 2 + m - 1 < loM a m b + b ∧ m + hiM a m b ≤ (a + b) / 2 + m - 1 + 1 ∧ loM a m b ≤ m ∧ hiM a m b ≤ (a + b) / 2 := by
 unfold loM hiM; split <;> omega
theorem merge_mid (hr : ∀ x, le x x) (ht : ∀ x y z, le x y → le y z → le x z) {a m b s : Nat} {l l1 : List α} (ham : a < m) (hmb : m < b) (hb : b ≤ l.length) (h1 : Srt le a m l) (h2 : Srt le m b l) (h : Thr le (loM a m b) (hiM a m b) ((a + b) / 2 + m - 1) s s l)
 (hrot : ∀ k, l1[k]? = l[rotI s m ((a + b) / 2 + m - s) k]?) :
 Srt le a s l1 ∧ Srt le s ((a + b) / 2) l1 ∧ Srt le ((a + b) / 2) ((a + b) / 2 + m - s) l1 ∧ Srt le ((a + b) / 2 + m - s) b l1 ∧ a ≤ s ∧ s ≤ (a + b) / 2 ∧ (a + b) / 2 ≤ (a + b) / 2 + m - s ∧ (a + b) / 2 + m - s ≤ b ∧
 ∀ p q x y, a ≤ p → p < (a + b) / 2 → (a + b) / 2 ≤ q → q < b → l1[p]? = some x → l1[q]? = some y → le x y := by
 obtain ⟨o1, o2, o3, o4, o5, o6, o7⟩ := loM_ok ham hmb
 obtain ⟨e1, e2, e3, e4, e5⟩ := h
 have hM1 : a ≤ (a + b) / 2 := by omega
 have hM2 : (a + b) / 2 < b := by omega
 have hend : loM a m b = a ∨ loM a m b = (a + b) / 2 + m - b := by unfold loM; split <;> simp
 have hhi : hiM a m b = m ∨ hiM a m b = (a + b) / 2 := by unfold hiM; split <;> simp
 have hlohi : (loM a m b = a ∧ hiM a m b = m) ∨ (loM a m b = (a + b) / 2 + m - b ∧ hiM a m b = (a + b) / 2 ∧ (a + b) / 2 < m) := by unfold loM hiM; split <;> omega
 generalize hmid : (a + b) / 2 = mid at *
 have hsm : s ≤ m := by omega
 have hsmid : s ≤ mid := by omega
 have hE1 : mid + m - s ≤ b := by omega
 have g1 : ∀ k, k < s → l1[k]? = l[k]? := fun k hk => by rw [hrot]; congr 1; unfold rotI; rw [if_pos (by omega)]
 have g2 : ∀ k, s ≤ k → k < mid → l1[k]? = l[m + (k - s)]? := fun k hk hk' => by rw [hrot]; congr 1; unfold rotI; rw [if_neg (by omega), if_pos (by omega)]
 have g3 : ∀ k, mid ≤ k → k < mid + m - s → l1[k]? = l[s + (k - mid)]? := fun k hk hk' => by rw [hrot]; congr 1; unfold rotI; rw [if_neg (by omega), if_neg (by omega)]; omega
 have g4 : ∀ k, mid + m - s ≤ k → l1[k]? = l[k]? := fun k hk => by rw [hrot]; congr 1; unfold rotI; rw [if_pos (by omega)]
 refine ⟨?_, ?_, ?_, ?_, by omega, by omega, by omega, hE1, ?_⟩
 · exact (h1.sub le (Nat.le_refl _) hsm).ext le fun k h3 h4 => g1 k h4
 · intro i j x y k1 k2 k3 hx hy
   rw [g2 i k1 (by omega)] at hx
   rw [g2 j (by omega) k3] at hy
   exact h2 _ _ x y (by omega) (by omega) (by omega) hx hy
 · intro i j x y k1 k2 k3 hx hy
   rw [g3 i k1 (by omega)] at hx
   rw [g3 j (by omega) k3] at hy
   exact h1 _ _ x y (by omega) (by omega) (by omega) hx hy
 · exact (h2.sub le (by omega) (Nat.le_refl _)).ext le fun k h3 h4 => g4 k h3
 · intro p q x y k1 k2 k3 k4 hx hy
   rcases Nat.lt_or_ge p s with hp | hp
   · rw [g1 p hp] at hx
     rcases Nat.lt_or_ge q (mid + m - s) with hq | hq
     · rw [g3 q k3 hq] at hy
       exact h1 _ _ x y k1 (by omega) (by omega) hx hy
     · rw [g4 q hq] at hy
       have hlo : loM a m b < s := by
        rcases Nat.lt_or_ge (loM a m b) s with h6 | h6
        · exact h6
        · omega
       obtain ⟨u, hu⟩ : ∃ u, l[s - 1]? = some u := ⟨_, List.getElem?_eq_getElem (by omega)⟩
       obtain ⟨v, hv⟩ : ∃ v, l[mid + m - s]? = some v := ⟨_, List.getElem?_eq_getElem (by omega)⟩
       have a1 : le x u := h1.eqv le hr k1 (show p ≤ s - 1 by omega) (by omega) hx hu
       have a2 : le u v := e4 (s - 1) u v (by omega) (by omega) hu (by rw [← hv]; congr 1; omega)
       have a3 : le v y := h2.eqv le hr (by omega) hq k4 hv hy
       exact ht _ _ _ a1 (ht _ _ _ a2 a3)
   · rw [g2 p hp k2] at hx
     rcases Nat.lt_or_ge q (mid + m - s) with hq | hq
     · rw [g3 q k3 hq] at hy
       have hhi2 : s < hiM a m b := by
        rcases Nat.lt_or_ge s (hiM a m b) with h6 | h6
        · exact h6
        · omega
       obtain ⟨u, hu⟩ : ∃ u, l[mid + m - s - 1]? = some u := ⟨_, List.getElem?_eq_getElem (by omega)⟩
       obtain ⟨v, hv⟩ : ∃ v, l[s]? = some v := ⟨_, List.getElem?_eq_getElem (by omega)⟩
       have a1 : le x u := h2.eqv le hr (by omega) (show m + (p - s) ≤ mid + m - s - 1 by omega) (by omega) hx hu
       have a2 : le u v := e5 s v u (Nat.le_refl _) hhi2 hv (by rw [← hu]; congr 1; omega)
       have a3 : le v y := h1.eqv le hr (by omega) (show s ≤ s + (q - mid) by omega) (by omega) hv hy
       exact ht _ _ _ a1 (ht _ _ _ a2 a3)
     · rw [g4 q hq] at hy
       exact h2 _ _ x y (by omega) (by omega) k4 hx hy
theorem merge_join {a mid b : Nat} {l1 l2 l3 : List α} (h1 : a ≤ mid) (h2 : mid ≤ b) (hb : b ≤ l1.length) (hc : ∀ p q x y, a ≤ p → p < mid → mid ≤ q → q < b → l1[p]? = some x → l1[q]? = some y → le x y) (s1 : Sw a mid l1 l2) (s2 : Sw mid b l2 l3) (g1 : Srt le a mid l2) (g2 : Srt le mid b l3) : Srt le a b l3 := by
 intro i j x y k1 k2 k3 hx hy
 rcases Nat.lt_or_ge j mid with hj | hj
 · rw [s2.out (.inl (by omega))] at hx hy
   exact g1 i j x y k1 k2 hj hx hy
 · rcases Nat.lt_or_ge i mid with hi | hi
   · rw [s2.out (.inl hi)] at hx
     obtain ⟨p, p1, p2, p3⟩ := s1.mem k1 hi hx
     obtain ⟨q, q1, q2, q3⟩ := s2.mem hj k3 hy
     rw [s1.out (.inr q1)] at q3
     exact hc p q x y p1 p2 q1 q2 p3 q3
   · exact g2 i j x y hi k2 k3 hx hy
end
end
end Go.Proofs.YtbfilfhgcihhoaaGreatDoor
namespace Go.En
open Go.RowKit Go.Cb
set_option linter.all false
section
variable {P : Program} {st : St} {o : Oper} {x y : Operand} {t t' : TypeId} {q q' : PV}
theorem q_addE {a b c : Int} (ho : o.op = .binOp .add t x y t' := by exact rfl) (hx : ev st.slots x = some (.int .i64 a, q) := by exact rfl) (hy : ev st.slots y = some (.int .i64 b, q') := by exact rfl) (hc : a + b = c := by omega) (h1 : -9223372036854775808 ≤ c := by omega) (h2 : c ≤ 9223372036854775807 := by omega) : YE P st o (· = .int .i64 c) (.val (.int .i64 c)) := by
 subst hc; exact y_add ho hx hy h1 h2
theorem q_subE {a b c : Int} (ho : o.op = .binOp .sub t x y t' := by exact rfl) (hx : ev st.slots x = some (.int .i64 a, q) := by exact rfl) (hy : ev st.slots y = some (.int .i64 b, q') := by exact rfl) (hc : a - b = c := by omega) (h1 : -9223372036854775808 ≤ c := by omega) (h2 : c ≤ 9223372036854775807 := by omega) : YE P st o (· = .int .i64 c) (.val (.int .i64 c)) := by
 subst hc; exact y_sub ho hx hy h1 h2
theorem q_mulE {a b c : Int} (ho : o.op = .binOp .mul t x y t' := by exact rfl) (hx : ev st.slots x = some (.int .i64 a, q) := by exact rfl) (hy : ev st.slots y = some (.int .i64 b, q') := by exact rfl) (hc : a * b = c := by omega) (h1 : -9223372036854775808 ≤ c := by omega) (h2 : c ≤ 9223372036854775807 := by omega) : YE P st o (· = .int .i64 c) (.val (.int .i64 c)) := by
 subst hc; exact y_mul ho hx hy h1 h2
theorem q_moveE {a c : Int} (ho : o.op = .move x := by exact rfl) (hx : ev st.slots x = some (.int .i64 a, q) := by exact rfl) (hc : a = c := by omega) : YE P st o (· = .int .i64 c) (.val (.int .i64 c)) := by
 subst hc; exact y1 hx (fun _ _ _ => .val _) fun ρ w h => by simp [execOp, ho, h]
theorem q_toU {a : Nat} {s d : TypeId} {ds : TypeDesc} (hs : P.underlying s = some ds) (hd : P.underlying d = some (.int .u64)) (ha : a ≤ 9223372036854775807) (ho : o.op = .convert s d x := by exact rfl) (hx : ev st.slots x = some (.int .i64 (a : Int), q) := by exact rfl) : YE P st o (· = .int .u64 (a : Int)) (.val (.int .u64 (a : Int))) :=
 y_conv hs hd ho hx (IntWalk.u64_in _ (by omega))
theorem q_ofU {a : Nat} {s d : TypeId} {ds : TypeDesc} (hs : P.underlying s = some ds) (hd : P.underlying d = some (.int .i64)) (ha : a ≤ 9223372036854775807) (ho : o.op = .convert s d x := by exact rfl) (hx : ev st.slots x = some (.int .u64 (a : Int), q) := by exact rfl) : YE P st o (· = .int .i64 (a : Int)) (.val (.int .i64 (a : Int))) :=
 y_conv hs hd ho hx (IntWalk.i64_in _ (by omega))
theorem q_halfU {a : Nat} {b : Int} {kb : IntKind} (hb : b = 1) (ho : o.op = .binOp .shr t x y t' := by exact rfl) (hx : ev st.slots x = some (.int .u64 (a : Int), q) := by exact rfl) (hy : ev st.slots y = some (.int kb b, q') := by exact rfl) : YE P st o (· = .int .u64 ((a / 2 : Nat) : Int)) (.val (.int .u64 ((a / 2 : Nat) : Int))) :=
 y2 hx hy fun ρ w h3 h4 => by
  subst hb
  have e : (a : Int).fdiv 2 = ((a / 2 : Nat) : Int) := by
   rw [Int.fdiv_eq_ediv_of_nonneg _ (by decide)]; rfl
  simp [execOp, ho, h3, h4, eqGuard, binOp, Op.shift]
  exact e
end
end Go.En
namespace Go.Proofs.YtbfilfhgcihhoaaGreatDoor
open Go.RowKit Go.Cb Go.En
set_option linter.all false
set_option maxRecDepth 100000
theorem tAgg24_PtE : AggT Tryz.prog 24 3 = true := by kernel_rfl
theorem tSl22_PtE : SlT Tryz.prog 22 24 3 = true := by kernel_rfl
theorem cTrs_len (l : List Nd) : (cTrs l).length = l.length * 3 := by rw [cTrs_eq]; exact flat_len cN_len l
theorem setL_in : ∀ (ps : List PV) (a b c : List PV) (j : Nat), a.length = j → b.length = ps.length → setL (a ++ b ++ c) j ps = a ++ ps ++ c
 | [], a, b, c, j, ha, hb => by
   have : b = [] := List.eq_nil_of_length_eq_zero hb
   subst this; rfl
 | p :: ps, a, x :: b, c, j, ha, hb => by
   rw [setL]
   have h1 : (a ++ (x :: b) ++ c).set j p = (a ++ [p]) ++ b ++ c := by
    subst ha
    rw [List.append_assoc, List.set_append_right _ _ (Nat.le_refl _), Nat.sub_self]
    simp
   rw [h1, setL_in ps (a ++ [p]) b c (j + 1) (by simp [ha]) (by simpa using hb)]
   simp
theorem setL_tr (L : List Nd) (k : Nat) (x : Nd) (h : k < L.length) : setL (cTrs L) (k * 3) (cN x) = cTrs (L.set k x) := by
 rw [cTrs_eq, cTrs_eq]
 have e : L = L.take k ++ [L[k]] ++ L.drop (k + 1) := by
  rw [List.append_assoc, List.singleton_append, List.getElem_cons_drop, List.take_append_drop]
 have e2 : L.set k x = L.take k ++ [x] ++ L.drop (k + 1) := by
  rw [List.set_eq_take_append_cons_drop, if_pos h, List.append_assoc]; rfl
 rw [e2]
 conv => lhs; rw [e]
 simp only [List.flatMap_append, List.flatMap_singleton]
 exact setL_in (cN x) _ _ _ _ (by rw [flat_len cN_len, List.length_take, Nat.min_eq_left (Nat.le_of_lt h)]) rfl
theorem swp_cells {L : List Nd} {i j : Nat} {x y : Nd} (hx : L[i]? = some x) (hy : L[j]? = some y) : setL (setL (cTrs L) (i * 3) (cN y)) (j * 3) (cN x) = cTrs (swp L i j) := by
 rw [setL_tr L i y (lt_of_get hx), setL_tr _ j x (by rw [List.length_set]; exact lt_of_get hy), swp_eq hx hy]
def rowT (hv : Value) (l : List Nd) : List (Nat × Ent) := [(1000, hv, .own 24 3 l.length (cTrs l))]
theorem tSwapR_e (l : List Nd) (hl : l.length ≤ 1000000) (a b n : Nat) (h1 : a + n ≤ b) (h2 : b + n ≤ l.length) (hv : Value) (fv : Value) (f : Nat) : AFh False Tryz.prog 162 [(0, hv, .val hv), (1, .int .i64 (a : Int), pInt a), (2, .int .i64 (b : Int), pInt b), (3, .int .i64 (n : Int), pInt n), (4, fv, .fn f [])] (rowT hv l) (fun v q h => ∃ l', (∀ k, l'[k]? = l[srI a b n k]?) ∧ Sw a (b + n) l l' ∧ h = rowT hv l') := by
 unfold rowT
 refine AFh.of_body 38 Tryz.func162 rfl Tryz.ntmps162 (Nat.le_of_ble_eq_true rfl) rfl ?_
 intro w0 M0 N0
 refine nav ?_
 (refine aC_region ?_ <;> refine xL 10 q_assign ?_ <;> refine aL_end (nav ?_) <;> try dsimp only)
 refine aC_loop (ι := { q : Nat × List Nd // q.1 ≤ n ∧ (∀ k, q.2[k]? = l[srI a b q.1 k]?) ∧ Sw a (b + n) l q.2 }) (fun k => ⟨[(0, _, _), (1, _, _), (2, _, _), (3, _, _), (10, .int .i64 k.1.1, pInt k.1.1)], [(1000, hv, .own 24 3 l.length (cTrs k.1.2))]⟩) (fun k => n - k.1.1) ⟨(0, l), Nat.zero_le _, fun k => by rw [sr_zero], .refl _⟩ (fun a w H => H.weaken ⟨rfl, rfl, rfl, rfl, rfl, trivial⟩ ⟨rfl, trivial⟩) ?_
 rintro ⟨⟨i, L⟩, hi, hL, hS⟩
 dsimp only
 dsimp only at hi hL hS; have hLl := hS.len
 refine nav ?_
 (refine aC_region ?_ <;> refine xL 11 q_move ?_ <;> refine xL 12 q_move ?_ <;> refine xL 13 q_lss ?_ <;> refine aL_end (nav ?_) <;> try dsimp only)
 (first | refine cCd ?_ ?_ | refine cC ?_ ?_) <;> intro hb13
 · first
   | exact Bool.noConfusion hb13
   | (
    have hin : i < n := by omega
    obtain ⟨x, hx⟩ := get_some (show a + i < L.length by omega)
    obtain ⟨y, hy⟩ := get_some (show b + i < L.length by omega)
    have e1 := tr_drop hx
    have e2 := tr_fit hx
    have e3 := tr_drop hy
    have e4 := tr_fit hy
    have hsw := swp_cells hx hy
    have e5 : (setL (cTrs L) ((a + i) * 3) (cN y)).length = (cTrs L).length := setL_len _ _ _
    refine nav ?_
    (refine aC_draw (fun i => ([] : List Nat).elem i) [] (by kernel_rfl) ?_ <;> refine xD 0 16 rfl q_move ?_ <;> refine xD 1 17 rfl q_move ?_ <;> refine xD 2 18 rfl q_move ?_ <;> refine xD 3 19 rfl ((q_addE (c := ((a + i : Nat) : Int)))) ?_ <;> refine xD 4 20 rfl q_move ?_ <;> refine xD 5 21 rfl q_move ?_ <;> refine xD 6 22 rfl q_move ?_ <;> refine xD 7 23 rfl ((q_addE (c := ((b + i : Nat) : Int)))) ?_ <;> refine xD 8 24 rfl q_move ?_ <;> refine xD 9 25 rfl q_move ?_ <;> refine xD 10 26 rfl q_move ?_ <;> refine xD 11 27 rfl ((q_addE (c := ((b + i : Nat) : Int)))) ?_ <;> refine xD 14 30 rfl q_move ?_ <;> refine xD 15 31 rfl q_move ?_ <;> refine xD 16 32 rfl q_move ?_ <;> refine xD 17 33 rfl ((q_addE (c := ((a + i : Nat) : Int)))) ?_ <;> (refine aD_two 12 18 (by kernel_rfl) ?_ ?_; rotate_right; (focus ((refine aW_run rfl fun w9 M9 N9 DQ back => ?_) <;> refine xL 34 (q_idxoN 1000 tSl22_PtE) ?_ <;> refine aL_end (back _ (nrm ?_)) <;> (refine aD_two 12 19 (by kernel_rfl) ?_ ?_; rotate_right; (focus ((refine aW_run rfl fun w9 M9 N9 DQ back => ?_) <;> (refine yL 35 (q_ldao 1000 tAgg24_PtE) fun v35 hv35 => ?_; cases hv35) <;> refine aL_end (back _ (nrm ?_)) <;> (refine aD_one 12 (by kernel_rfl) ?_) <;> (refine aW_run rfl fun w9 M9 N9 DQ back => ?_) <;> refine xL 28 (q_idxoN 1000 tSl22_PtE) ?_ <;> refine aL_end (back _ (nrm ?_)) <;> (refine aD_one 13 (by kernel_rfl) ?_) <;> (refine aW_run rfl fun w9 M9 N9 DQ back => ?_) <;> (refine yL 29 (q_ldao 1000 tAgg24_PtE) fun v29 hv29 => ?_; cases hv29) <;> refine aL_end (back _ (nrm ?_)) <;> refine xE 20 36 rfl (q_idxoN 1000 tSl22_PtE) ?_ <;> (refine aD_one 21 (by kernel_rfl) ?_) <;> (refine aW_run rfl fun w9 M9 N9 DQ back => ?_) <;> refine s_sta 1000 tAgg24_PtE ?_ <;> refine aL_end (back _ (nrm ?_)) <;> refine xE 22 37 rfl (q_idxoN 1000 tSl22_PtE) ?_ <;> (refine aD_one 23 (by kernel_rfl) ?_) <;> (refine aW_run rfl fun w9 M9 N9 DQ back => ?_) <;> refine s_sta 1000 tAgg24_PtE ?_ <;> refine aL_end (back _ (nrm ?_)))); rotate_right; (focus ((refine aW_run rfl fun w9 M9 N9 DQ back => ?_) <;> refine xL 28 (q_idxoN 1000 tSl22_PtE) ?_ <;> refine aL_end (back _ (nrm ?_)) <;> (refine aD_two 13 19 (by kernel_rfl) ?_ ?_; rotate_right; (focus ((refine aW_run rfl fun w9 M9 N9 DQ back => ?_) <;> (refine yL 35 (q_ldao 1000 tAgg24_PtE) fun v35 hv35 => ?_; cases hv35) <;> refine aL_end (back _ (nrm ?_)) <;> (refine aD_one 13 (by kernel_rfl) ?_) <;> (refine aW_run rfl fun w9 M9 N9 DQ back => ?_) <;> (refine yL 29 (q_ldao 1000 tAgg24_PtE) fun v29 hv29 => ?_; cases hv29) <;> refine aL_end (back _ (nrm ?_)) <;> refine xE 20 36 rfl (q_idxoN 1000 tSl22_PtE) ?_ <;> (refine aD_one 21 (by kernel_rfl) ?_) <;> (refine aW_run rfl fun w9 M9 N9 DQ back => ?_) <;> refine s_sta 1000 tAgg24_PtE ?_ <;> refine aL_end (back _ (nrm ?_)) <;> refine xE 22 37 rfl (q_idxoN 1000 tSl22_PtE) ?_ <;> (refine aD_one 23 (by kernel_rfl) ?_) <;> (refine aW_run rfl fun w9 M9 N9 DQ back => ?_) <;> refine s_sta 1000 tAgg24_PtE ?_ <;> refine aL_end (back _ (nrm ?_)))); rotate_right; (focus ((refine aW_run rfl fun w9 M9 N9 DQ back => ?_) <;> (refine yL 29 (q_ldao 1000 tAgg24_PtE) fun v29 hv29 => ?_; cases hv29) <;> refine aL_end (back _ (nrm ?_)) <;> (refine aD_one 19 (by kernel_rfl) ?_) <;> (refine aW_run rfl fun w9 M9 N9 DQ back => ?_) <;> (refine yL 35 (q_ldao 1000 tAgg24_PtE) fun v35 hv35 => ?_; cases hv35) <;> refine aL_end (back _ (nrm ?_)) <;> refine xE 20 36 rfl (q_idxoN 1000 tSl22_PtE) ?_ <;> (refine aD_one 21 (by kernel_rfl) ?_) <;> (refine aW_run rfl fun w9 M9 N9 DQ back => ?_) <;> refine s_sta 1000 tAgg24_PtE ?_ <;> refine aL_end (back _ (nrm ?_)) <;> refine xE 22 37 rfl (q_idxoN 1000 tSl22_PtE) ?_ <;> (refine aD_one 23 (by kernel_rfl) ?_) <;> (refine aW_run rfl fun w9 M9 N9 DQ back => ?_) <;> refine s_sta 1000 tAgg24_PtE ?_ <;> refine aL_end (back _ (nrm ?_)))))))))); rotate_right; (focus ((refine aW_run rfl fun w9 M9 N9 DQ back => ?_) <;> refine xL 28 (q_idxoN 1000 tSl22_PtE) ?_ <;> refine aL_end (back _ (nrm ?_)) <;> (refine aD_two 13 18 (by kernel_rfl) ?_ ?_; rotate_right; (focus ((refine aW_run rfl fun w9 M9 N9 DQ back => ?_) <;> refine xL 34 (q_idxoN 1000 tSl22_PtE) ?_ <;> refine aL_end (back _ (nrm ?_)) <;> (refine aD_two 13 19 (by kernel_rfl) ?_ ?_; rotate_right; (focus ((refine aW_run rfl fun w9 M9 N9 DQ back => ?_) <;> (refine yL 35 (q_ldao 1000 tAgg24_PtE) fun v35 hv35 => ?_; cases hv35) <;> refine aL_end (back _ (nrm ?_)) <;> (refine aD_one 13 (by kernel_rfl) ?_) <;> (refine aW_run rfl fun w9 M9 N9 DQ back => ?_) <;> (refine yL 29 (q_ldao 1000 tAgg24_PtE) fun v29 hv29 => ?_; cases hv29) <;> refine aL_end (back _ (nrm ?_)) <;> refine xE 20 36 rfl (q_idxoN 1000 tSl22_PtE) ?_ <;> (refine aD_one 21 (by kernel_rfl) ?_) <;> (refine aW_run rfl fun w9 M9 N9 DQ back => ?_) <;> refine s_sta 1000 tAgg24_PtE ?_ <;> refine aL_end (back _ (nrm ?_)) <;> refine xE 22 37 rfl (q_idxoN 1000 tSl22_PtE) ?_ <;> (refine aD_one 23 (by kernel_rfl) ?_) <;> (refine aW_run rfl fun w9 M9 N9 DQ back => ?_) <;> refine s_sta 1000 tAgg24_PtE ?_ <;> refine aL_end (back _ (nrm ?_)))); rotate_right; (focus ((refine aW_run rfl fun w9 M9 N9 DQ back => ?_) <;> (refine yL 29 (q_ldao 1000 tAgg24_PtE) fun v29 hv29 => ?_; cases hv29) <;> refine aL_end (back _ (nrm ?_)) <;> (refine aD_one 19 (by kernel_rfl) ?_) <;> (refine aW_run rfl fun w9 M9 N9 DQ back => ?_) <;> (refine yL 35 (q_ldao 1000 tAgg24_PtE) fun v35 hv35 => ?_; cases hv35) <;> refine aL_end (back _ (nrm ?_)) <;> refine xE 20 36 rfl (q_idxoN 1000 tSl22_PtE) ?_ <;> (refine aD_one 21 (by kernel_rfl) ?_) <;> (refine aW_run rfl fun w9 M9 N9 DQ back => ?_) <;> refine s_sta 1000 tAgg24_PtE ?_ <;> refine aL_end (back _ (nrm ?_)) <;> refine xE 22 37 rfl (q_idxoN 1000 tSl22_PtE) ?_ <;> (refine aD_one 23 (by kernel_rfl) ?_) <;> (refine aW_run rfl fun w9 M9 N9 DQ back => ?_) <;> refine s_sta 1000 tAgg24_PtE ?_ <;> refine aL_end (back _ (nrm ?_))))))); rotate_right; (focus ((refine aW_run rfl fun w9 M9 N9 DQ back => ?_) <;> (refine yL 29 (q_ldao 1000 tAgg24_PtE) fun v29 hv29 => ?_; cases hv29) <;> refine aL_end (back _ (nrm ?_)) <;> (refine aD_one 18 (by kernel_rfl) ?_) <;> (refine aW_run rfl fun w9 M9 N9 DQ back => ?_) <;> refine xL 34 (q_idxoN 1000 tSl22_PtE) ?_ <;> refine aL_end (back _ (nrm ?_)) <;> (refine aD_one 19 (by kernel_rfl) ?_) <;> (refine aW_run rfl fun w9 M9 N9 DQ back => ?_) <;> (refine yL 35 (q_ldao 1000 tAgg24_PtE) fun v35 hv35 => ?_; cases hv35) <;> refine aL_end (back _ (nrm ?_)) <;> refine xE 20 36 rfl (q_idxoN 1000 tSl22_PtE) ?_ <;> (refine aD_one 21 (by kernel_rfl) ?_) <;> (refine aW_run rfl fun w9 M9 N9 DQ back => ?_) <;> refine s_sta 1000 tAgg24_PtE ?_ <;> refine aL_end (back _ (nrm ?_)) <;> refine xE 22 37 rfl (q_idxoN 1000 tSl22_PtE) ?_ <;> (refine aD_one 23 (by kernel_rfl) ?_) <;> (refine aW_run rfl fun w9 M9 N9 DQ back => ?_) <;> refine s_sta 1000 tAgg24_PtE ?_ <;> refine aL_end (back _ (nrm ?_)))))))) <;> refine aD_end (by kernel_rfl) (nav ?_) <;> try dsimp only) <;> (
     (refine aC_region ?_ <;> refine xL 14 q_move ?_ <;> refine xL 15 q_add ?_ <;> refine xL 10 q_assign ?_ <;> refine aL_end (nav ?_) <;> try dsimp only)
     rw [hsw]
     refine aN_again (
      ⟨(i + 1, swp L (a + i) (b + i)), hin, sr_step hin h1 (by omega) hL, .step _ _ hS (by omega) (by omega) (by omega) (by omega) h2⟩
      ) (by dsimp only; omega) ⟨rfl, rfl, rfl, rfl, rfl, trivial⟩ ⟨rfl, trivial⟩))
 · first
   | exact Bool.noConfusion hb13
   | (
    refine nav ?_
    have hin : i = n := by omega
    subst hin
    refine end_h0 [(1000, hv, .own 24 3 l.length (cTrs L))] (Tryz.results162) ⟨rfl, trivial⟩ ⟨L, hL, hS, ?_⟩
    rw [hLl])
theorem tRotate_e (l : List Nd) (hl : l.length ≤ 1000000) (a m b : Nat) (h1 : a < m) (h2 : m < b) (h3 : b ≤ l.length) (hv : Value) (fv : Value) (f : Nat) : AFh False Tryz.prog 158 [(0, hv, .val hv), (1, .int .i64 (a : Int), pInt a), (2, .int .i64 (m : Int), pInt m), (3, .int .i64 (b : Int), pInt b), (4, fv, .fn f [])] (rowT hv l) (fun v q h => ∃ l', (∀ k, l'[k]? = l[rotI a m b k]?) ∧ Sw a b l l' ∧ h = rowT hv l') := by
 unfold rowT
 refine AFh.of_body 58 Tryz.func158 rfl Tryz.ntmps158 (Nat.le_of_ble_eq_true rfl) rfl ?_
 intro w0 M0 N0
 refine nav ?_
 (refine aC_region ?_ <;> refine xL 12 q_move ?_ <;> refine xL 13 q_move ?_ <;> refine xL 14 ((q_subE (c := ((m - a : Nat) : Int)))) ?_ <;> refine xL 10 q_assign ?_ <;> refine aL_end (nav ?_) <;> try dsimp only)
 (refine aC_region ?_ <;> refine xL 15 q_move ?_ <;> refine xL 16 q_move ?_ <;> refine xL 17 ((q_subE (c := ((b - m : Nat) : Int)))) ?_ <;> refine xL 11 q_assign ?_ <;> refine aL_end (nav ?_) <;> try dsimp only)
 refine aC_loop (ι := { q : Nat × Nat × List Nd // 0 < q.1 ∧ 0 < q.2.1 ∧ q.1 ≤ m - a ∧ q.2.1 ≤ b - m ∧ (∀ k, q.2.2[rotI (m - q.1) m (m + q.2.1) k]? = l[rotI a m b k]?) ∧ Sw a b l q.2.2 }) (fun k => ⟨[(0, _, _), (1, _, _), (2, _, _), (3, _, _), (4, _, _), (10, .int .i64 k.1.1, pInt k.1.1), (11, .int .i64 k.1.2.1, pInt k.1.2.1)], [(1000, hv, .own 24 3 l.length (cTrs k.1.2.2))]⟩) (fun k => k.1.1 + k.1.2.1) ⟨(m - a, b - m, l), by dsimp only; omega, by dsimp only; omega, Nat.le_refl _, Nat.le_refl _, fun k => by dsimp only; rw [show m - (m - a) = a by omega, show m + (b - m) = b by omega], .refl _⟩ (fun a w H => H.weaken ⟨rfl, rfl, rfl, rfl, rfl, rfl, rfl, trivial⟩ ⟨rfl, trivial⟩) ?_
 rintro ⟨⟨i, j, L⟩, hi0, hj0, hi, hj, hL, hS⟩
 dsimp only
 dsimp only at hi0 hj0 hi hj hL hS; have hLl := hS.len
 refine nav ?_
 (refine aC_region ?_ <;> refine xL 18 q_move ?_ <;> refine xL 19 q_move ?_ <;> refine xL 20 q_neq ?_ <;> refine aL_end (nav ?_) <;> try dsimp only)
 (first | refine cCd ?_ ?_ | refine cC ?_ ?_) <;> intro hb20
 · first
   | exact Bool.noConfusion hb20
   | (
    refine nav ?_
    (refine aC_region ?_ <;> refine xL 21 q_move ?_ <;> refine xL 22 q_move ?_ <;> refine xL 23 q_gtr ?_ <;> refine aL_end (nav ?_) <;> try dsimp only)
    (first | refine cCd ?_ ?_ | refine cC ?_ ?_) <;> intro hb23
    · first
      | exact Bool.noConfusion hb23
      | (
       refine nav ?_
       (refine aC_region ?_ <;> refine xL 24 q_move ?_ <;> refine xL 25 q_move ?_ <;> refine xL 26 q_move ?_ <;> refine xL 27 ((q_subE (c := ((m - i : Nat) : Int)))) ?_ <;> refine xL 28 q_move ?_ <;> refine xL 29 q_move ?_ <;> refine xL 30 q_move ?_ <;> (refine aL_heap (rowT hv L) ⟨by rw [← hLl]; rfl, trivial⟩ ?_; refine aL_ch [] 31 (Tryz.call162) (tSwapR_e L (by omega) (m - i) m j (by omega) (by omega) hv fv f) (fun v31 p31 h31 hR31 => ?_); obtain ⟨L2, hL2, hS2, rfl⟩ := hR31; have hL2l := hS2.len.trans hLl; dsimp only [rowT]; rw [hL2l]) <;> refine aL_end (nav ?_) <;> try dsimp only)
       (refine aC_region ?_ <;> refine xL 32 q_move ?_ <;> refine xL 33 q_move ?_ <;> refine xL 34 ((q_subE (c := ((i - j : Nat) : Int)))) ?_ <;> refine xL 10 q_assign ?_ <;> refine aL_end (nav ?_) <;> try dsimp only)
       first
        | (exact aN_again (
            ⟨(i - j, j, L2), by dsimp only; omega, hj0, by dsimp only; omega, hj, fun k => by
              dsimp only
              rw [hL2, show m - (i - j) = m - i + j by omega, rot_gt (by omega) (by omega)]; exact hL k, hS.trans (hS2.mono (by omega) (by omega) (by omega))⟩
            ) (by dsimp only; omega) ⟨rfl, rfl, rfl, rfl, rfl, rfl, rfl, trivial⟩ ⟨rfl, trivial⟩)
        | (exact aN_again (
            ⟨(i, j - i, L2), hi0, by dsimp only; omega, hi, by dsimp only; omega, fun k => by
              dsimp only
              rw [hL2, show m + (j - i) = m + j - i by omega, rot_lt (by omega) (by omega)]; exact hL k, hS.trans (hS2.mono (by omega) (by omega) (by omega))⟩
            ) (by dsimp only; omega) ⟨rfl, rfl, rfl, rfl, rfl, rfl, rfl, trivial⟩ ⟨rfl, trivial⟩))
    · first
      | exact Bool.noConfusion hb23
      | (
       refine nav ?_
       (refine aC_region ?_ <;> refine xL 35 q_move ?_ <;> refine xL 36 q_move ?_ <;> refine xL 37 q_move ?_ <;> refine xL 38 ((q_subE (c := ((m - i : Nat) : Int)))) ?_ <;> refine xL 39 q_move ?_ <;> refine xL 40 q_move ?_ <;> refine xL 41 ((q_addE (c := ((m + j : Nat) : Int)))) ?_ <;> refine xL 42 q_move ?_ <;> refine xL 43 ((q_subE (c := ((m + j - i : Nat) : Int)))) ?_ <;> refine xL 44 q_move ?_ <;> refine xL 45 q_move ?_ <;> (refine aL_heap (rowT hv L) ⟨by rw [← hLl]; rfl, trivial⟩ ?_; refine aL_ch [] 46 (Tryz.call162) (tSwapR_e L (by omega) (m - i) (m + j - i) i (by omega) (by omega) hv fv f) (fun v46 p46 h46 hR46 => ?_); obtain ⟨L2, hL2, hS2, rfl⟩ := hR46; have hL2l := hS2.len.trans hLl; dsimp only [rowT]; rw [hL2l]) <;> refine aL_end (nav ?_) <;> try dsimp only)
       (refine aC_region ?_ <;> refine xL 47 q_move ?_ <;> refine xL 48 q_move ?_ <;> refine xL 49 ((q_subE (c := ((j - i : Nat) : Int)))) ?_ <;> refine xL 11 q_assign ?_ <;> refine aL_end (nav ?_) <;> try dsimp only)
       first
        | (exact aN_again (
            ⟨(i - j, j, L2), by dsimp only; omega, hj0, by dsimp only; omega, hj, fun k => by
              dsimp only
              rw [hL2, show m - (i - j) = m - i + j by omega, rot_gt (by omega) (by omega)]; exact hL k, hS.trans (hS2.mono (by omega) (by omega) (by omega))⟩
            ) (by dsimp only; omega) ⟨rfl, rfl, rfl, rfl, rfl, rfl, rfl, trivial⟩ ⟨rfl, trivial⟩)
        | (exact aN_again (
            ⟨(i, j - i, L2), hi0, by dsimp only; omega, hi, by dsimp only; omega, fun k => by
              dsimp only
              rw [hL2, show m + (j - i) = m + j - i by omega, rot_lt (by omega) (by omega)]; exact hL k, hS.trans (hS2.mono (by omega) (by omega) (by omega))⟩
            ) (by dsimp only; omega) ⟨rfl, rfl, rfl, rfl, rfl, rfl, rfl, trivial⟩ ⟨rfl, trivial⟩)))
 · first
   | exact Bool.noConfusion hb20
   | (
    have hij : j = i := by omega
    subst hij
    refine nav ?_
    (refine aC_region ?_ <;> refine xL 50 q_move ?_ <;> refine xL 51 q_move ?_ <;> refine xL 52 q_move ?_ <;> refine xL 53 ((q_subE (c := ((m - j : Nat) : Int)))) ?_ <;> refine xL 54 q_move ?_ <;> refine xL 55 q_move ?_ <;> refine xL 56 q_move ?_ <;> (refine aL_heap (rowT hv L) ⟨by rw [← hLl]; rfl, trivial⟩ ?_; refine aL_ch [] 57 (Tryz.call162) (tSwapR_e L (by omega) (m - j) m j (by omega) (by omega) hv fv f) (fun v57 p57 h57 hR57 => ?_); obtain ⟨L2, hL2, hS2, rfl⟩ := hR57; have hL2l := hS2.len.trans hLl; dsimp only [rowT]) <;> refine aL_end (nav ?_) <;> try dsimp only)
    refine end_h0 (rowT hv L2) (Tryz.results158) ⟨rfl, trivial⟩ ⟨L2, fun k => ?_, hS.trans (hS2.mono (by omega) (by omega) (by omega)), rfl⟩
    rw [hL2, rot_eq (by omega)]; exact hL k)
theorem sw_mem {a b : Nat} {l L : List Nd} (h : Sw a b l L) {x : Nd} (hx : x ∈ L) : x ∈ l := h.perm.mem_iff.1 hx
theorem le_of_not {x y : Nd} (h : ¬ cmpT x y < 0) : leT y x := leT_not.1 h
theorem tIns_e (f : Nat) (hc : ∀ args w, (callFunc f args).run Tryz.prog w = .ok (.enter f args) w) (l : List Nd) (hl : l.length ≤ 1000000) (hf : ∀ x ∈ l, ∀ y ∈ l, AF Tryz.prog f [pTr x, pTr y] (· = pInt (cmpT x y))) (a b : Nat) (h1 : a ≤ b) (h2 : b ≤ l.length) (hv : Value) (fv : Value) : AFh False Tryz.prog 149 [(0, hv, .val hv), (1, .int .i64 (a : Int), pInt a), (2, .int .i64 (b : Int), pInt b), (3, fv, .fn f [])] (rowT hv l) (fun v q h => ∃ l', Sw a b l l' ∧ Srt leT a b l' ∧ h = rowT hv l') := by
 unfold rowT
 refine AFh.of_body 53 Tryz.func149 rfl Tryz.ntmps149 (Nat.le_of_ble_eq_true rfl) rfl ?_
 intro w0 M0 N0
 refine nav ?_
 (refine aC_region ?_ <;> refine xL 10 q_move ?_ <;> refine xL 11 ((q_addE (c := ((a + 1 : Nat) : Int)))) ?_ <;> refine xL 8 q_assign ?_ <;> refine aL_end (nav ?_) <;> try dsimp only)
 refine aC_loop (ι := { q : Nat × List Nd // a + 1 ≤ q.1 ∧ (q.1 ≤ b ∨ b ≤ a + 1) ∧ Sw a b l q.2 ∧ Srt leT a q.1 q.2 }) (fun k => ⟨[(0, _, _), (1, _, _), (2, _, _), (3, _, _), (8, .int .i64 k.1.1, pInt k.1.1)], [(1000, hv, .own 24 3 l.length (cTrs k.1.2))]⟩) (fun k => b - k.1.1) ⟨(a + 1, l), Nat.le_refl _, by dsimp only; omega, .refl _, .small leT _ (Nat.le_refl _)⟩ (fun a w H => H.weaken ⟨rfl, rfl, rfl, rfl, rfl, trivial⟩ ⟨rfl, trivial⟩) ?_
 rintro ⟨⟨i, L0⟩, hi1, hi2, hS0, hO0⟩
 dsimp only
 dsimp only at hi1 hi2 hS0 hO0
 refine nav ?_
 (refine aC_region ?_ <;> refine xL 12 q_move ?_ <;> refine xL 13 q_move ?_ <;> refine xL 14 q_lss ?_ <;> refine aL_end (nav ?_) <;> try dsimp only)
 (first | refine cCd ?_ ?_ | refine cC ?_ ?_) <;> intro hb14
 · first
   | exact Bool.noConfusion hb14
   | (
    refine nav ?_
    (refine aC_region ?_ <;> refine xL 17 q_move ?_ <;> refine xL 9 q_assign ?_ <;> refine aL_end (nav ?_) <;> try dsimp only)
    refine aC_loop (ι := { q : Nat × List Nd // a ≤ q.1 ∧ q.1 ≤ i ∧ Sw a b l q.2 ∧ InsI leT a i q.1 q.2 }) (fun k => ⟨[(0, _, _), (1, _, _), (2, _, _), (3, _, _), (8, _, _), (9, .int .i64 k.1.1, pInt k.1.1)], [(1000, hv, .own 24 3 l.length (cTrs k.1.2))]⟩) (fun k => k.1.1) ⟨(i, L0), by dsimp only; omega, Nat.le_refl _, hS0, ins_start leT hO0⟩ (fun a w H => H.weaken ⟨rfl, rfl, rfl, rfl, rfl, rfl, trivial⟩ ⟨rfl, trivial⟩) ?_
    rintro ⟨⟨j, L⟩, hj1, hj2, hS, hI⟩
    dsimp only
    dsimp only at hj1 hj2 hS hI; have hLl := hS.len
    refine nav ?_
    (refine aC_draw (fun i => ([] : List Nat).elem i) [1000] (by kernel_rfl) ?_ <;> refine xD 0 18 rfl q_move ?_ <;> refine xE 1 19 rfl q_move ?_ <;> refine xE 2 20 rfl q_gtr ?_ <;> refine xE 3 21 rfl q_move ?_ <;> (refine bDd 21 (fun hb21 => ?_) (fun hb21 => ?_) <;> (first | refine kD 4 22 rfl ?_ | refine xD 4 22 rfl q_move ?_)) <;> (first | refine kD 5 23 rfl ?_ | (obtain ⟨k, rfl⟩ : ∃ k, j = k + 1 := ⟨j - 1, by omega⟩; obtain ⟨x, hx⟩ := get_some (show k + 1 < L.length by omega); obtain ⟨y, hy⟩ := get_some (show k < L.length by omega); have e1 := tr_drop hx; have e2 := tr_fit hx; have e3 := tr_drop hy; have e4 := tr_fit hy; have hsw := swp_cells hx hy; have e5 : (setL (cTrs L) ((k + 1) * 3) (cN y)).length = (cTrs L).length := setL_len _ _ _; refine xD 5 23 rfl q_move ?_)) <;> (first | refine kD 6 24 rfl ?_ | refine xD 6 24 rfl q_move ?_) <;> (first | refine kD 7 25 rfl ?_ | refine xD 7 25 rfl (q_idxoN 1000 tSl22_PtE) ?_) <;> (first | refine kD 8 26 rfl ?_ | (refine yD 8 26 rfl (q_ldao 1000 tAgg24_PtE) fun v26 hv26 => ?_; cases hv26)) <;> (first | refine kD 9 27 rfl ?_ | refine xD 9 27 rfl q_move ?_) <;> (first | refine kD 10 28 rfl ?_ | refine xD 10 28 rfl q_move ?_) <;> (first | refine kD 11 29 rfl ?_ | refine xD 11 29 rfl ((q_subE (c := ((k : Nat) : Int)))) ?_) <;> (first | refine kD 12 30 rfl ?_ | refine xD 12 30 rfl (q_idxoN 1000 tSl22_PtE) ?_) <;> (first | refine kD 13 31 rfl ?_ | (refine yD 13 31 rfl (q_ldao 1000 tAgg24_PtE) fun v31 hv31 => ?_; cases hv31)) <;> (refine aD_one 14 (by kernel_rfl) ?_) <;> (first | (refine aW_call (d := 32) rfl (callF (f := f) (ps := []) rfl ⟨_, rfl⟩ hc rfl (hf x (sw_mem hS (List.mem_of_getElem? hx)) y (sw_mem hS (List.mem_of_getElem? hy)))) fun v32 hv32 => ?_; cases hv32) | (refine aW_run rfl fun w9 M9 N9 DQ back => ?_; refine kL 32 ?_; refine aL_end (back _ (nrm ?_)))) <;> (first | refine kD 15 33 rfl ?_ | refine xD 15 33 rfl q_lss ?_) <;> refine xE 16 34 rfl q_pick ?_ <;> refine aD_end (by kernel_rfl) (nav ?_) <;> try dsimp only) <;> (
     (first | refine cCd ?_ ?_ | refine cC ?_ ?_) <;> intro hb34
     · first
       | exact Bool.noConfusion hb34
       | (
        refine nav ?_
        (refine aC_draw (fun i => ([] : List Nat).elem i) [] (by kernel_rfl) ?_ <;> refine xD 0 37 rfl q_move ?_ <;> refine xD 1 38 rfl q_move ?_ <;> refine xD 2 39 rfl q_move ?_ <;> refine xD 3 40 rfl q_move ?_ <;> refine xD 4 41 rfl ((q_subE (c := ((k : Nat) : Int)))) ?_ <;> refine xD 5 42 rfl q_move ?_ <;> refine xD 6 43 rfl q_move ?_ <;> refine xD 7 44 rfl ((q_subE (c := ((k : Nat) : Int)))) ?_ <;> refine xD 10 47 rfl q_move ?_ <;> refine xD 11 48 rfl q_move ?_ <;> (refine aD_two 8 12 (by kernel_rfl) ?_ ?_; rotate_right; (focus ((refine aW_run rfl fun w9 M9 N9 DQ back => ?_) <;> refine xL 49 (q_idxoN 1000 tSl22_PtE) ?_ <;> refine aL_end (back _ (nrm ?_)) <;> (refine aD_two 8 13 (by kernel_rfl) ?_ ?_; rotate_right; (focus ((refine aW_run rfl fun w9 M9 N9 DQ back => ?_) <;> (refine yL 50 (q_ldao 1000 tAgg24_PtE) fun v50 hv50 => ?_; cases hv50) <;> refine aL_end (back _ (nrm ?_)) <;> (refine aD_one 8 (by kernel_rfl) ?_) <;> (refine aW_run rfl fun w9 M9 N9 DQ back => ?_) <;> refine xL 45 (q_idxoN 1000 tSl22_PtE) ?_ <;> refine aL_end (back _ (nrm ?_)) <;> (refine aD_one 9 (by kernel_rfl) ?_) <;> (refine aW_run rfl fun w9 M9 N9 DQ back => ?_) <;> (refine yL 46 (q_ldao 1000 tAgg24_PtE) fun v46 hv46 => ?_; cases hv46) <;> refine aL_end (back _ (nrm ?_)) <;> refine xE 14 51 rfl (q_idxoN 1000 tSl22_PtE) ?_ <;> (refine aD_one 15 (by kernel_rfl) ?_) <;> (refine aW_run rfl fun w9 M9 N9 DQ back => ?_) <;> refine s_sta 1000 tAgg24_PtE ?_ <;> refine aL_end (back _ (nrm ?_)) <;> refine xE 16 52 rfl (q_idxoN 1000 tSl22_PtE) ?_ <;> (refine aD_one 17 (by kernel_rfl) ?_) <;> (refine aW_run rfl fun w9 M9 N9 DQ back => ?_) <;> refine s_sta 1000 tAgg24_PtE ?_ <;> refine aL_end (back _ (nrm ?_)))); rotate_right; (focus ((refine aW_run rfl fun w9 M9 N9 DQ back => ?_) <;> refine xL 45 (q_idxoN 1000 tSl22_PtE) ?_ <;> refine aL_end (back _ (nrm ?_)) <;> (refine aD_two 9 13 (by kernel_rfl) ?_ ?_; rotate_right; (focus ((refine aW_run rfl fun w9 M9 N9 DQ back => ?_) <;> (refine yL 50 (q_ldao 1000 tAgg24_PtE) fun v50 hv50 => ?_; cases hv50) <;> refine aL_end (back _ (nrm ?_)) <;> (refine aD_one 9 (by kernel_rfl) ?_) <;> (refine aW_run rfl fun w9 M9 N9 DQ back => ?_) <;> (refine yL 46 (q_ldao 1000 tAgg24_PtE) fun v46 hv46 => ?_; cases hv46) <;> refine aL_end (back _ (nrm ?_)) <;> refine xE 14 51 rfl (q_idxoN 1000 tSl22_PtE) ?_ <;> (refine aD_one 15 (by kernel_rfl) ?_) <;> (refine aW_run rfl fun w9 M9 N9 DQ back => ?_) <;> refine s_sta 1000 tAgg24_PtE ?_ <;> refine aL_end (back _ (nrm ?_)) <;> refine xE 16 52 rfl (q_idxoN 1000 tSl22_PtE) ?_ <;> (refine aD_one 17 (by kernel_rfl) ?_) <;> (refine aW_run rfl fun w9 M9 N9 DQ back => ?_) <;> refine s_sta 1000 tAgg24_PtE ?_ <;> refine aL_end (back _ (nrm ?_)))); rotate_right; (focus ((refine aW_run rfl fun w9 M9 N9 DQ back => ?_) <;> (refine yL 46 (q_ldao 1000 tAgg24_PtE) fun v46 hv46 => ?_; cases hv46) <;> refine aL_end (back _ (nrm ?_)) <;> (refine aD_one 13 (by kernel_rfl) ?_) <;> (refine aW_run rfl fun w9 M9 N9 DQ back => ?_) <;> (refine yL 50 (q_ldao 1000 tAgg24_PtE) fun v50 hv50 => ?_; cases hv50) <;> refine aL_end (back _ (nrm ?_)) <;> refine xE 14 51 rfl (q_idxoN 1000 tSl22_PtE) ?_ <;> (refine aD_one 15 (by kernel_rfl) ?_) <;> (refine aW_run rfl fun w9 M9 N9 DQ back => ?_) <;> refine s_sta 1000 tAgg24_PtE ?_ <;> refine aL_end (back _ (nrm ?_)) <;> refine xE 16 52 rfl (q_idxoN 1000 tSl22_PtE) ?_ <;> (refine aD_one 17 (by kernel_rfl) ?_) <;> (refine aW_run rfl fun w9 M9 N9 DQ back => ?_) <;> refine s_sta 1000 tAgg24_PtE ?_ <;> refine aL_end (back _ (nrm ?_)))))))))); rotate_right; (focus ((refine aW_run rfl fun w9 M9 N9 DQ back => ?_) <;> refine xL 45 (q_idxoN 1000 tSl22_PtE) ?_ <;> refine aL_end (back _ (nrm ?_)) <;> (refine aD_two 9 12 (by kernel_rfl) ?_ ?_; rotate_right; (focus ((refine aW_run rfl fun w9 M9 N9 DQ back => ?_) <;> refine xL 49 (q_idxoN 1000 tSl22_PtE) ?_ <;> refine aL_end (back _ (nrm ?_)) <;> (refine aD_two 9 13 (by kernel_rfl) ?_ ?_; rotate_right; (focus ((refine aW_run rfl fun w9 M9 N9 DQ back => ?_) <;> (refine yL 50 (q_ldao 1000 tAgg24_PtE) fun v50 hv50 => ?_; cases hv50) <;> refine aL_end (back _ (nrm ?_)) <;> (refine aD_one 9 (by kernel_rfl) ?_) <;> (refine aW_run rfl fun w9 M9 N9 DQ back => ?_) <;> (refine yL 46 (q_ldao 1000 tAgg24_PtE) fun v46 hv46 => ?_; cases hv46) <;> refine aL_end (back _ (nrm ?_)) <;> refine xE 14 51 rfl (q_idxoN 1000 tSl22_PtE) ?_ <;> (refine aD_one 15 (by kernel_rfl) ?_) <;> (refine aW_run rfl fun w9 M9 N9 DQ back => ?_) <;> refine s_sta 1000 tAgg24_PtE ?_ <;> refine aL_end (back _ (nrm ?_)) <;> refine xE 16 52 rfl (q_idxoN 1000 tSl22_PtE) ?_ <;> (refine aD_one 17 (by kernel_rfl) ?_) <;> (refine aW_run rfl fun w9 M9 N9 DQ back => ?_) <;> refine s_sta 1000 tAgg24_PtE ?_ <;> refine aL_end (back _ (nrm ?_)))); rotate_right; (focus ((refine aW_run rfl fun w9 M9 N9 DQ back => ?_) <;> (refine yL 46 (q_ldao 1000 tAgg24_PtE) fun v46 hv46 => ?_; cases hv46) <;> refine aL_end (back _ (nrm ?_)) <;> (refine aD_one 13 (by kernel_rfl) ?_) <;> (refine aW_run rfl fun w9 M9 N9 DQ back => ?_) <;> (refine yL 50 (q_ldao 1000 tAgg24_PtE) fun v50 hv50 => ?_; cases hv50) <;> refine aL_end (back _ (nrm ?_)) <;> refine xE 14 51 rfl (q_idxoN 1000 tSl22_PtE) ?_ <;> (refine aD_one 15 (by kernel_rfl) ?_) <;> (refine aW_run rfl fun w9 M9 N9 DQ back => ?_) <;> refine s_sta 1000 tAgg24_PtE ?_ <;> refine aL_end (back _ (nrm ?_)) <;> refine xE 16 52 rfl (q_idxoN 1000 tSl22_PtE) ?_ <;> (refine aD_one 17 (by kernel_rfl) ?_) <;> (refine aW_run rfl fun w9 M9 N9 DQ back => ?_) <;> refine s_sta 1000 tAgg24_PtE ?_ <;> refine aL_end (back _ (nrm ?_))))))); rotate_right; (focus ((refine aW_run rfl fun w9 M9 N9 DQ back => ?_) <;> (refine yL 46 (q_ldao 1000 tAgg24_PtE) fun v46 hv46 => ?_; cases hv46) <;> refine aL_end (back _ (nrm ?_)) <;> (refine aD_one 12 (by kernel_rfl) ?_) <;> (refine aW_run rfl fun w9 M9 N9 DQ back => ?_) <;> refine xL 49 (q_idxoN 1000 tSl22_PtE) ?_ <;> refine aL_end (back _ (nrm ?_)) <;> (refine aD_one 13 (by kernel_rfl) ?_) <;> (refine aW_run rfl fun w9 M9 N9 DQ back => ?_) <;> (refine yL 50 (q_ldao 1000 tAgg24_PtE) fun v50 hv50 => ?_; cases hv50) <;> refine aL_end (back _ (nrm ?_)) <;> refine xE 14 51 rfl (q_idxoN 1000 tSl22_PtE) ?_ <;> (refine aD_one 15 (by kernel_rfl) ?_) <;> (refine aW_run rfl fun w9 M9 N9 DQ back => ?_) <;> refine s_sta 1000 tAgg24_PtE ?_ <;> refine aL_end (back _ (nrm ?_)) <;> refine xE 16 52 rfl (q_idxoN 1000 tSl22_PtE) ?_ <;> (refine aD_one 17 (by kernel_rfl) ?_) <;> (refine aW_run rfl fun w9 M9 N9 DQ back => ?_) <;> refine s_sta 1000 tAgg24_PtE ?_ <;> refine aL_end (back _ (nrm ?_)))))))) <;> refine aD_end (by kernel_rfl) (nav ?_) <;> try dsimp only) <;> (
         (refine aC_region ?_ <;> refine xL 35 q_move ?_ <;> refine xL 36 ((q_subE (c := ((k : Nat) : Int)))) ?_ <;> refine xL 9 q_assign ?_ <;> refine aL_end (nav ?_) <;> try dsimp only)
         rw [hsw]
         refine aN_again (
          ⟨(k, swp L (k + 1) k), by dsimp only; omega, by dsimp only; omega, .step _ _ hS (by omega) (by omega) (by omega) (by omega) h2, ins_step leT hI (by omega) (by omega) (by omega) hx hy (by unfold leT; omega)⟩
          ) (by dsimp only; omega) ⟨rfl, rfl, rfl, rfl, rfl, rfl, trivial⟩ ⟨rfl, trivial⟩))
     · first
       | exact Bool.noConfusion hb34
       | (
        refine nav ?_
        (refine aC_region ?_ <;> refine xL 15 q_move ?_ <;> refine xL 16 q_add ?_ <;> refine xL 8 q_assign ?_ <;> refine aL_end (nav ?_) <;> try dsimp only)
        first
         | (exact aN_again (
             ⟨(i + 1, L), by dsimp only; omega, by dsimp only; omega, hS, ins_end leT leT_refl (fun _ _ _ => leT_trans) hI (by omega) (by omega) (show i < L.length by omega) (.inr ⟨k, y, x, rfl, hy, hx, le_of_not (by omega)⟩)⟩
             ) (by dsimp only; omega) ⟨rfl, rfl, rfl, rfl, rfl, trivial⟩ ⟨rfl, trivial⟩)
         | (exact aN_again (
             ⟨(i + 1, L), by dsimp only; omega, by dsimp only; omega, hS, ins_end leT leT_refl (fun _ _ _ => leT_trans) hI (by omega) (by omega) (show i < L.length by omega) (.inl (by omega))⟩
             ) (by dsimp only; omega) ⟨rfl, rfl, rfl, rfl, rfl, trivial⟩ ⟨rfl, trivial⟩))))
 · first
   | exact Bool.noConfusion hb14
   | (
    refine nav ?_
    refine end_h0 [(1000, hv, .own 24 3 l.length (cTrs L0))] (Tryz.results149) ⟨rfl, trivial⟩ ⟨L0, hS0, hO0.sub _ (Nat.le_refl _) (by omega), by rw [hS0.len]⟩)
theorem tAgg24_PtF : AggT Tryz.prog 24 3 = true := by kernel_rfl
theorem tSl22_PtF : SlT Tryz.prog 22 24 3 = true := by kernel_rfl
theorem srt_two {a s m : Nat} {l : List Nd} (h1 : a ≤ s) (h2 : s ≤ m) (h : ¬ (a < s ∧ s < m)) (g1 : Srt leT a s l) (g2 : Srt leT s m l) : Srt leT a m l := by
 rcases Nat.lt_or_ge a s with h3 | h3
 · have : s = m := by omega
   subst this; exact g1
 · have : s = a := by omega
   subst this; exact g2
theorem rot_id {s m e k : Nat} (h1 : s ≤ m) (h2 : m ≤ e) (h : ¬ (s < m ∧ m < e)) : rotI s m e k = k := by
 unfold rotI
 split
 · rfl
 · split <;> omega
def BsT (m b i j : Nat) (x : Nd) (l : List Nd) : Prop := m ≤ i ∧ i ≤ j ∧ j ≤ b ∧ (∀ q y, m ≤ q → q < i → l[q]? = some y → leT y x) ∧ (∀ q y, j ≤ q → q < b → l[q]? = some y → leT x y)
theorem bs_start (m b : Nat) (x : Nd) (l : List Nd) (h : m ≤ b) : BsT m b m b x l := ⟨Nat.le_refl _, h, Nat.le_refl _, fun q y h1 h2 => by omega, fun q y h1 h2 => by omega⟩
theorem bs_up {m b i j c : Nat} {x y : Nd} {l : List Nd} (h : BsT m b i j x l) (hs : Srt leT m b l) (h1 : i ≤ c) (h2 : c < j) (hy : l[c]? = some y) (hle : leT y x) : BsT m b (c + 1) j x l := by
 obtain ⟨e1, e2, e3, e4, e5⟩ := h
 refine ⟨by omega, by omega, e3, fun q z k1 k2 hz => ?_, e5⟩
 exact leT_trans (hs.eqv leT leT_refl k1 (show q ≤ c by omega) (by omega) hz hy) hle
theorem bs_down {m b i j c : Nat} {x y : Nd} {l : List Nd} (h : BsT m b i j x l) (hs : Srt leT m b l) (h1 : i ≤ c) (h2 : c < j) (hy : l[c]? = some y) (hle : leT x y) : BsT m b i c x l := by
 obtain ⟨e1, e2, e3, e4, e5⟩ := h
 refine ⟨e1, by omega, by omega, e4, fun q z k1 k2 hz => ?_⟩
 exact leT_trans hle (hs.eqv leT leT_refl (show m ≤ c by omega) k1 k2 hy hz)
set_option maxHeartbeats 4000000 in
theorem tSym_e (f : Nat) (hc : ∀ args w, (callFunc f args).run Tryz.prog w = .ok (.enter f args) w) (hv : Value) (fv : Value) : ∀ (n : Nat) (l : List Nd) (hl : l.length ≤ 1000000) (hf : ∀ x ∈ l, ∀ y ∈ l, AF Tryz.prog f [pTr x, pTr y] (· = pInt (cmpT x y))) (a m b : Nat) (hn : b - a ≤ n) (h1 : a < m) (h2 : m < b) (h3 : b ≤ l.length) (s1 : Srt leT a m l) (s2 : Srt leT m b l), AFh False Tryz.prog 150 [(0, hv, .val hv), (1, .int .i64 (a : Int), pInt a), (2, .int .i64 (m : Int), pInt m), (3, .int .i64 (b : Int), pInt b), (4, fv, .fn f [])] (rowT hv l) (fun v q h => ∃ l', Sw a b l l' ∧ Srt leT a b l' ∧ h = rowT hv l') := fun n => by
 induction n with
 | zero => intro l hl hf a m b hn h1 h2; omega
 | succ n ih => ?_
 intro l hl hf a m b hn h1 h2 h3 s1 s2
 unfold rowT
 obtain ⟨xa, hxa⟩ := get_some (show a < l.length by omega)
 obtain ⟨xm, hxm⟩ := get_some (show m < l.length by omega)
 have ea := tr_drop hxa
 have ea2 := tr_fit hxa
 have em := tr_drop hxm
 have em2 := tr_fit hxm
 refine AFh.of_body 220 Tryz.func150 rfl Tryz.ntmps150 (Nat.le_of_ble_eq_true rfl) rfl ?_
 intro w0 M0 N0
 refine nav ?_
 (refine aC_region ?_ <;> refine xL 25 q_move ?_ <;> refine xL 26 q_move ?_ <;> refine xL 27 q_sub ?_ <;> refine xL 28 q_eql ?_ <;> refine aL_end (nav ?_) <;> try dsimp only)
 (first | refine cCd ?_ ?_ | refine cC ?_ ?_) <;> intro hb28
 · first
   | exact Bool.noConfusion hb28
   | (
    refine nav ?_
    (refine aC_region ?_ <;> refine xL 29 q_move ?_ <;> refine xL 10 q_assign ?_ <;> refine aL_end (nav ?_) <;> try dsimp only)
    (refine aC_region ?_ <;> refine xL 30 q_move ?_ <;> refine xL 11 q_assign ?_ <;> refine aL_end (nav ?_) <;> try dsimp only)
    refine aC_loop (ι := { q : Nat × Nat // BsT m b q.1 q.2 xa l }) (fun k => ⟨[(0, _, _), (1, _, _), (2, _, _), (3, _, _), (4, _, _), (10, .int .i64 k.1.1, pInt k.1.1), (11, .int .i64 k.1.2, pInt k.1.2)], [(1000, hv, .own 24 3 l.length (cTrs l))]⟩) (fun k => k.1.2 - k.1.1) ⟨(m, b), bs_start m b xa l (by omega)⟩ (fun a w H => H.weaken ⟨rfl, rfl, rfl, rfl, rfl, rfl, rfl, trivial⟩ ⟨rfl, trivial⟩) ?_
    rintro ⟨⟨i, j⟩, hB⟩
    dsimp only
    dsimp only at hB; have hB1 := hB.1; have hB2 := hB.2.1; have hB3 := hB.2.2.1
    refine nav ?_
    (refine aC_region ?_ <;> refine xL 31 q_move ?_ <;> refine xL 32 q_move ?_ <;> refine xL 33 q_lss ?_ <;> refine aL_end (nav ?_) <;> try dsimp only)
    (first | refine cCd ?_ ?_ | refine cC ?_ ?_) <;> intro hb33
    · first
      | exact Bool.noConfusion hb33
      | (
       refine nav ?_
       (refine aC_region ?_ <;> refine xL 34 q_move ?_ <;> refine xL 35 q_move ?_ <;> refine xL 36 ((q_addE (c := ((i + j : Nat) : Int)))) ?_ <;> refine xL 37 ((q_toU (a := i + j) rfl rfl (by omega))) ?_ <;> refine xL 38 ((q_halfU (a := i + j) rfl)) ?_ <;> refine xL 39 ((q_ofU (a := (i + j) / 2) rfl rfl (by omega))) ?_ <;> refine xL 12 q_assign ?_ <;> refine aL_end (nav ?_) <;> try dsimp only)
       obtain ⟨y, hy⟩ := get_some (show (i + j) / 2 < l.length by omega)
       have e3 := tr_drop hy
       have e4 := tr_fit hy
       (refine aC_draw (fun i => ([] : List Nat).elem i) [1000] (by kernel_rfl) ?_ <;> refine xD 0 40 rfl q_move ?_ <;> refine xD 1 41 rfl q_move ?_ <;> refine xD 2 42 rfl q_move ?_ <;> refine xD 3 43 rfl (q_idxoN 1000 tSl22_PtF) ?_ <;> (refine yD 4 44 rfl (q_ldao 1000 tAgg24_PtF) fun v44 hv44 => ?_; cases hv44) <;> refine xD 5 45 rfl q_move ?_ <;> refine xE 6 46 rfl q_move ?_ <;> refine xE 7 47 rfl (q_idxoN 1000 tSl22_PtF) ?_ <;> (refine yE 8 48 rfl (q_ldao 1000 tAgg24_PtF) fun v48 hv48 => ?_; cases hv48) <;> (refine aD_one 9 (by kernel_rfl) ?_) <;> (refine aW_call (d := 49) rfl (callF (f := f) (ps := []) rfl ⟨_, rfl⟩ hc rfl (hf y (List.mem_of_getElem? hy) xa (List.mem_of_getElem? hxa))) fun v49 hv49 => ?_; cases hv49) <;> refine xE 10 50 rfl q_lss ?_ <;> refine aD_end (by kernel_rfl) (nav ?_) <;> try dsimp only)
       (first | refine cCd ?_ ?_ | refine cC ?_ ?_) <;> intro hb50
       · first
         | exact Bool.noConfusion hb50
         | (
          refine nav ?_
          (refine aC_region ?_ <;> refine xL 51 q_move ?_ <;> refine xL 52 q_add ?_ <;> refine xL 10 q_assign ?_ <;> refine aL_end (nav ?_) <;> try dsimp only)
          first
           | (exact aN_again (
               ⟨((i + j) / 2 + 1, j), bs_up hB s2 (by omega) (by omega) hy (by unfold leT; omega)⟩
               ) (by dsimp only; omega) ⟨rfl, rfl, rfl, rfl, rfl, rfl, rfl, trivial⟩ ⟨rfl, trivial⟩)
           | (exact aN_again (
               ⟨(i, (i + j) / 2), bs_down hB s2 (by omega) (by omega) hy (le_of_not (by omega))⟩
               ) (by dsimp only; omega) ⟨rfl, rfl, rfl, rfl, rfl, rfl, rfl, trivial⟩ ⟨rfl, trivial⟩))
       · first
         | exact Bool.noConfusion hb50
         | (
          refine nav ?_
          (refine aC_region ?_ <;> refine xL 53 q_move ?_ <;> refine xL 11 q_assign ?_ <;> refine aL_end (nav ?_) <;> try dsimp only)
          first
           | (exact aN_again (
               ⟨((i + j) / 2 + 1, j), bs_up hB s2 (by omega) (by omega) hy (by unfold leT; omega)⟩
               ) (by dsimp only; omega) ⟨rfl, rfl, rfl, rfl, rfl, rfl, rfl, trivial⟩ ⟨rfl, trivial⟩)
           | (exact aN_again (
               ⟨(i, (i + j) / 2), bs_down hB s2 (by omega) (by omega) hy (le_of_not (by omega))⟩
               ) (by dsimp only; omega) ⟨rfl, rfl, rfl, rfl, rfl, rfl, rfl, trivial⟩ ⟨rfl, trivial⟩)))
    · first
      | exact Bool.noConfusion hb33
      | (
       have hij : j = i := by omega
       subst hij
       have hM : Mov leT a b a j l := mov_first leT (by rw [show a + 1 = m by omega]; exact s2) (by omega) (fun q x y h4 h5 hx hy => by
        rw [hxa] at hx; cases hx; exact hB.2.2.2.1 q y (by omega) h5 hy) (fun q x y h4 h5 hx hy => by
        rw [hxa] at hx; cases hx; exact hB.2.2.2.2 q y h4 h5 hy)
       refine nav ?_
       (refine aC_region ?_ <;> refine xL 54 q_move ?_ <;> refine xL 13 q_assign ?_ <;> refine aL_end (nav ?_) <;> try dsimp only)
       refine aC_loop (ι := { q : Nat × List Nd // a ≤ q.1 ∧ q.1 + 1 ≤ j ∧ Sw a b l q.2 ∧ Mov leT a b q.1 j q.2 }) (fun k => ⟨[(0, _, _), (1, _, _), (2, _, _), (3, _, _), (4, _, _), (10, _, _), (13, .int .i64 k.1.1, pInt k.1.1)], [(1000, hv, .own 24 3 l.length (cTrs k.1.2))]⟩) (fun k => j - k.1.1) ⟨(a, l), by dsimp only; omega, by dsimp only; omega, .refl _, hM⟩ (fun a w H => H.weaken ⟨rfl, rfl, rfl, rfl, rfl, rfl, rfl, trivial⟩ ⟨rfl, trivial⟩) ?_
       rintro ⟨⟨k, L⟩, hk1, hk2, hS, hM2⟩
       dsimp only
       dsimp only at hk1 hk2 hS hM2; have hLl := hS.len
       refine nav ?_
       (refine aC_region ?_ <;> refine xL 55 q_move ?_ <;> refine xL 56 q_move ?_ <;> refine xL 57 ((q_subE (c := ((j - 1 : Nat) : Int)))) ?_ <;> refine xL 58 q_lss ?_ <;> refine aL_end (nav ?_) <;> try dsimp only)
       (first | refine cCd ?_ ?_ | refine cC ?_ ?_) <;> intro hb58
       · first
         | exact Bool.noConfusion hb58
         | (
          have hkj : k + 1 < j := by omega
          obtain ⟨x, hx⟩ := get_some (show k < L.length by omega)
          obtain ⟨y, hy⟩ := get_some (show k + 1 < L.length by omega)
          have e1 := tr_drop hx
          have e2 := tr_fit hx
          have e3 := tr_drop hy
          have e4 := tr_fit hy
          have hsw := swp_cells hx hy
          have e5 : (setL (cTrs L) (k * 3) (cN y)).length = (cTrs L).length := setL_len _ _ _
          refine nav ?_
          (refine aC_draw (fun i => ([] : List Nat).elem i) [] (by kernel_rfl) ?_ <;> refine xD 0 61 rfl q_move ?_ <;> refine xD 1 62 rfl q_move ?_ <;> refine xD 2 63 rfl q_move ?_ <;> refine xD 3 64 rfl q_move ?_ <;> refine xD 4 65 rfl ((q_addE (c := ((k + 1 : Nat) : Int)))) ?_ <;> refine xD 5 66 rfl q_move ?_ <;> refine xD 6 67 rfl q_move ?_ <;> refine xD 7 68 rfl ((q_addE (c := ((k + 1 : Nat) : Int)))) ?_ <;> refine xD 10 71 rfl q_move ?_ <;> refine xD 11 72 rfl q_move ?_ <;> (refine aD_two 8 12 (by kernel_rfl) ?_ ?_; rotate_right; (focus ((refine aW_run rfl fun w9 M9 N9 DQ back => ?_) <;> refine xL 73 (q_idxoN 1000 tSl22_PtF) ?_ <;> refine aL_end (back _ (nrm ?_)) <;> (refine aD_two 8 13 (by kernel_rfl) ?_ ?_; rotate_right; (focus ((refine aW_run rfl fun w9 M9 N9 DQ back => ?_) <;> (refine yL 74 (q_ldao 1000 tAgg24_PtF) fun v74 hv74 => ?_; cases hv74) <;> refine aL_end (back _ (nrm ?_)) <;> (refine aD_one 8 (by kernel_rfl) ?_) <;> (refine aW_run rfl fun w9 M9 N9 DQ back => ?_) <;> refine xL 69 (q_idxoN 1000 tSl22_PtF) ?_ <;> refine aL_end (back _ (nrm ?_)) <;> (refine aD_one 9 (by kernel_rfl) ?_) <;> (refine aW_run rfl fun w9 M9 N9 DQ back => ?_) <;> (refine yL 70 (q_ldao 1000 tAgg24_PtF) fun v70 hv70 => ?_; cases hv70) <;> refine aL_end (back _ (nrm ?_)) <;> refine xE 14 75 rfl (q_idxoN 1000 tSl22_PtF) ?_ <;> (refine aD_one 15 (by kernel_rfl) ?_) <;> (refine aW_run rfl fun w9 M9 N9 DQ back => ?_) <;> refine s_sta 1000 tAgg24_PtF ?_ <;> refine aL_end (back _ (nrm ?_)) <;> refine xE 16 76 rfl (q_idxoN 1000 tSl22_PtF) ?_ <;> (refine aD_one 17 (by kernel_rfl) ?_) <;> (refine aW_run rfl fun w9 M9 N9 DQ back => ?_) <;> refine s_sta 1000 tAgg24_PtF ?_ <;> refine aL_end (back _ (nrm ?_)))); rotate_right; (focus ((refine aW_run rfl fun w9 M9 N9 DQ back => ?_) <;> refine xL 69 (q_idxoN 1000 tSl22_PtF) ?_ <;> refine aL_end (back _ (nrm ?_)) <;> (refine aD_two 9 13 (by kernel_rfl) ?_ ?_; rotate_right; (focus ((refine aW_run rfl fun w9 M9 N9 DQ back => ?_) <;> (refine yL 74 (q_ldao 1000 tAgg24_PtF) fun v74 hv74 => ?_; cases hv74) <;> refine aL_end (back _ (nrm ?_)) <;> (refine aD_one 9 (by kernel_rfl) ?_) <;> (refine aW_run rfl fun w9 M9 N9 DQ back => ?_) <;> (refine yL 70 (q_ldao 1000 tAgg24_PtF) fun v70 hv70 => ?_; cases hv70) <;> refine aL_end (back _ (nrm ?_)) <;> refine xE 14 75 rfl (q_idxoN 1000 tSl22_PtF) ?_ <;> (refine aD_one 15 (by kernel_rfl) ?_) <;> (refine aW_run rfl fun w9 M9 N9 DQ back => ?_) <;> refine s_sta 1000 tAgg24_PtF ?_ <;> refine aL_end (back _ (nrm ?_)) <;> refine xE 16 76 rfl (q_idxoN 1000 tSl22_PtF) ?_ <;> (refine aD_one 17 (by kernel_rfl) ?_) <;> (refine aW_run rfl fun w9 M9 N9 DQ back => ?_) <;> refine s_sta 1000 tAgg24_PtF ?_ <;> refine aL_end (back _ (nrm ?_)))); rotate_right; (focus ((refine aW_run rfl fun w9 M9 N9 DQ back => ?_) <;> (refine yL 70 (q_ldao 1000 tAgg24_PtF) fun v70 hv70 => ?_; cases hv70) <;> refine aL_end (back _ (nrm ?_)) <;> (refine aD_one 13 (by kernel_rfl) ?_) <;> (refine aW_run rfl fun w9 M9 N9 DQ back => ?_) <;> (refine yL 74 (q_ldao 1000 tAgg24_PtF) fun v74 hv74 => ?_; cases hv74) <;> refine aL_end (back _ (nrm ?_)) <;> refine xE 14 75 rfl (q_idxoN 1000 tSl22_PtF) ?_ <;> (refine aD_one 15 (by kernel_rfl) ?_) <;> (refine aW_run rfl fun w9 M9 N9 DQ back => ?_) <;> refine s_sta 1000 tAgg24_PtF ?_ <;> refine aL_end (back _ (nrm ?_)) <;> refine xE 16 76 rfl (q_idxoN 1000 tSl22_PtF) ?_ <;> (refine aD_one 17 (by kernel_rfl) ?_) <;> (refine aW_run rfl fun w9 M9 N9 DQ back => ?_) <;> refine s_sta 1000 tAgg24_PtF ?_ <;> refine aL_end (back _ (nrm ?_)))))))))); rotate_right; (focus ((refine aW_run rfl fun w9 M9 N9 DQ back => ?_) <;> refine xL 69 (q_idxoN 1000 tSl22_PtF) ?_ <;> refine aL_end (back _ (nrm ?_)) <;> (refine aD_two 9 12 (by kernel_rfl) ?_ ?_; rotate_right; (focus ((refine aW_run rfl fun w9 M9 N9 DQ back => ?_) <;> refine xL 73 (q_idxoN 1000 tSl22_PtF) ?_ <;> refine aL_end (back _ (nrm ?_)) <;> (refine aD_two 9 13 (by kernel_rfl) ?_ ?_; rotate_right; (focus ((refine aW_run rfl fun w9 M9 N9 DQ back => ?_) <;> (refine yL 74 (q_ldao 1000 tAgg24_PtF) fun v74 hv74 => ?_; cases hv74) <;> refine aL_end (back _ (nrm ?_)) <;> (refine aD_one 9 (by kernel_rfl) ?_) <;> (refine aW_run rfl fun w9 M9 N9 DQ back => ?_) <;> (refine yL 70 (q_ldao 1000 tAgg24_PtF) fun v70 hv70 => ?_; cases hv70) <;> refine aL_end (back _ (nrm ?_)) <;> refine xE 14 75 rfl (q_idxoN 1000 tSl22_PtF) ?_ <;> (refine aD_one 15 (by kernel_rfl) ?_) <;> (refine aW_run rfl fun w9 M9 N9 DQ back => ?_) <;> refine s_sta 1000 tAgg24_PtF ?_ <;> refine aL_end (back _ (nrm ?_)) <;> refine xE 16 76 rfl (q_idxoN 1000 tSl22_PtF) ?_ <;> (refine aD_one 17 (by kernel_rfl) ?_) <;> (refine aW_run rfl fun w9 M9 N9 DQ back => ?_) <;> refine s_sta 1000 tAgg24_PtF ?_ <;> refine aL_end (back _ (nrm ?_)))); rotate_right; (focus ((refine aW_run rfl fun w9 M9 N9 DQ back => ?_) <;> (refine yL 70 (q_ldao 1000 tAgg24_PtF) fun v70 hv70 => ?_; cases hv70) <;> refine aL_end (back _ (nrm ?_)) <;> (refine aD_one 13 (by kernel_rfl) ?_) <;> (refine aW_run rfl fun w9 M9 N9 DQ back => ?_) <;> (refine yL 74 (q_ldao 1000 tAgg24_PtF) fun v74 hv74 => ?_; cases hv74) <;> refine aL_end (back _ (nrm ?_)) <;> refine xE 14 75 rfl (q_idxoN 1000 tSl22_PtF) ?_ <;> (refine aD_one 15 (by kernel_rfl) ?_) <;> (refine aW_run rfl fun w9 M9 N9 DQ back => ?_) <;> refine s_sta 1000 tAgg24_PtF ?_ <;> refine aL_end (back _ (nrm ?_)) <;> refine xE 16 76 rfl (q_idxoN 1000 tSl22_PtF) ?_ <;> (refine aD_one 17 (by kernel_rfl) ?_) <;> (refine aW_run rfl fun w9 M9 N9 DQ back => ?_) <;> refine s_sta 1000 tAgg24_PtF ?_ <;> refine aL_end (back _ (nrm ?_))))))); rotate_right; (focus ((refine aW_run rfl fun w9 M9 N9 DQ back => ?_) <;> (refine yL 70 (q_ldao 1000 tAgg24_PtF) fun v70 hv70 => ?_; cases hv70) <;> refine aL_end (back _ (nrm ?_)) <;> (refine aD_one 12 (by kernel_rfl) ?_) <;> (refine aW_run rfl fun w9 M9 N9 DQ back => ?_) <;> refine xL 73 (q_idxoN 1000 tSl22_PtF) ?_ <;> refine aL_end (back _ (nrm ?_)) <;> (refine aD_one 13 (by kernel_rfl) ?_) <;> (refine aW_run rfl fun w9 M9 N9 DQ back => ?_) <;> (refine yL 74 (q_ldao 1000 tAgg24_PtF) fun v74 hv74 => ?_; cases hv74) <;> refine aL_end (back _ (nrm ?_)) <;> refine xE 14 75 rfl (q_idxoN 1000 tSl22_PtF) ?_ <;> (refine aD_one 15 (by kernel_rfl) ?_) <;> (refine aW_run rfl fun w9 M9 N9 DQ back => ?_) <;> refine s_sta 1000 tAgg24_PtF ?_ <;> refine aL_end (back _ (nrm ?_)) <;> refine xE 16 76 rfl (q_idxoN 1000 tSl22_PtF) ?_ <;> (refine aD_one 17 (by kernel_rfl) ?_) <;> (refine aW_run rfl fun w9 M9 N9 DQ back => ?_) <;> refine s_sta 1000 tAgg24_PtF ?_ <;> refine aL_end (back _ (nrm ?_)))))))) <;> refine aD_end (by kernel_rfl) (nav ?_) <;> try dsimp only) <;> (
           (refine aC_region ?_ <;> refine xL 59 q_move ?_ <;> refine xL 60 q_add ?_ <;> refine xL 13 q_assign ?_ <;> refine aL_end (nav ?_) <;> try dsimp only)
           rw [hsw]
           refine aN_again (
            ⟨(k + 1, swp L k (k + 1)), by dsimp only; omega, by dsimp only; omega, .step _ _ hS (by omega) (by omega) (by omega) (by omega) h3, mov_right leT hM2 (by omega) (by omega) hB3 (by omega)⟩
            ) (by dsimp only; omega) ⟨rfl, rfl, rfl, rfl, rfl, rfl, rfl, trivial⟩ ⟨rfl, trivial⟩))
       · first
         | exact Bool.noConfusion hb58
         | (
          refine nav ?_
          refine ret_h0 (rowT hv L) (Tryz.results150) ⟨by rw [← hLl]; rfl, trivial⟩ ⟨L, hS, mov_right_end leT hM2 (by omega), rfl⟩)))
 · first
   | exact Bool.noConfusion hb28
   | (
    refine nav ?_
    (refine aC_region ?_ <;> refine xL 77 q_move ?_ <;> refine xL 78 q_move ?_ <;> refine xL 79 q_sub ?_ <;> refine xL 80 q_eql ?_ <;> refine aL_end (nav ?_) <;> try dsimp only)
    (first | refine cCd ?_ ?_ | refine cC ?_ ?_) <;> intro hb80
    · first
      | exact Bool.noConfusion hb80
      | (
       refine nav ?_
       (refine aC_region ?_ <;> refine xL 81 q_move ?_ <;> refine xL 14 q_assign ?_ <;> refine aL_end (nav ?_) <;> try dsimp only)
       (refine aC_region ?_ <;> refine xL 82 q_move ?_ <;> refine xL 15 q_assign ?_ <;> refine aL_end (nav ?_) <;> try dsimp only)
       refine aC_loop (ι := { q : Nat × Nat // BsT a m q.1 q.2 xm l }) (fun k => ⟨[(0, _, _), (1, _, _), (2, _, _), (3, _, _), (4, _, _), (14, .int .i64 k.1.1, pInt k.1.1), (15, .int .i64 k.1.2, pInt k.1.2)], [(1000, hv, .own 24 3 l.length (cTrs l))]⟩) (fun k => k.1.2 - k.1.1) ⟨(a, m), bs_start a m xm l (by omega)⟩ (fun a w H => H.weaken ⟨rfl, rfl, rfl, rfl, rfl, rfl, rfl, trivial⟩ ⟨rfl, trivial⟩) ?_
       rintro ⟨⟨i, j⟩, hB⟩
       dsimp only
       dsimp only at hB; have hB1 := hB.1; have hB2 := hB.2.1; have hB3 := hB.2.2.1
       refine nav ?_
       (refine aC_region ?_ <;> refine xL 83 q_move ?_ <;> refine xL 84 q_move ?_ <;> refine xL 85 q_lss ?_ <;> refine aL_end (nav ?_) <;> try dsimp only)
       (first | refine cCd ?_ ?_ | refine cC ?_ ?_) <;> intro hb85
       · first
         | exact Bool.noConfusion hb85
         | (
          refine nav ?_
          (refine aC_region ?_ <;> refine xL 86 q_move ?_ <;> refine xL 87 q_move ?_ <;> refine xL 88 ((q_addE (c := ((i + j : Nat) : Int)))) ?_ <;> refine xL 89 ((q_toU (a := i + j) rfl rfl (by omega))) ?_ <;> refine xL 90 ((q_halfU (a := i + j) rfl)) ?_ <;> refine xL 91 ((q_ofU (a := (i + j) / 2) rfl rfl (by omega))) ?_ <;> refine xL 16 q_assign ?_ <;> refine aL_end (nav ?_) <;> try dsimp only)
          obtain ⟨y, hy⟩ := get_some (show (i + j) / 2 < l.length by omega)
          have e3 := tr_drop hy
          have e4 := tr_fit hy
          (refine aC_draw (fun i => ([] : List Nat).elem i) [1000] (by kernel_rfl) ?_ <;> refine xD 0 92 rfl q_move ?_ <;> refine xD 1 93 rfl q_move ?_ <;> refine xD 2 94 rfl q_move ?_ <;> refine xD 3 95 rfl (q_idxoN 1000 tSl22_PtF) ?_ <;> (refine yD 4 96 rfl (q_ldao 1000 tAgg24_PtF) fun v96 hv96 => ?_; cases hv96) <;> refine xD 5 97 rfl q_move ?_ <;> refine xE 6 98 rfl q_move ?_ <;> refine xE 7 99 rfl (q_idxoN 1000 tSl22_PtF) ?_ <;> (refine yE 8 100 rfl (q_ldao 1000 tAgg24_PtF) fun v100 hv100 => ?_; cases hv100) <;> (refine aD_one 9 (by kernel_rfl) ?_) <;> (refine aW_call (d := 101) rfl (callF (f := f) (ps := []) rfl ⟨_, rfl⟩ hc rfl (hf xm (List.mem_of_getElem? hxm) y (List.mem_of_getElem? hy))) fun v101 hv101 => ?_; cases hv101) <;> refine xE 10 102 rfl q_lss ?_ <;> refine xE 11 103 rfl q_not ?_ <;> refine aD_end (by kernel_rfl) (nav ?_) <;> try dsimp only)
          (first | refine cCd ?_ ?_ | refine cC ?_ ?_) <;> intro hb103
          · first
            | exact Bool.noConfusion hb103
            | (
             refine nav ?_
             (refine aC_region ?_ <;> refine xL 104 q_move ?_ <;> refine xL 105 q_add ?_ <;> refine xL 14 q_assign ?_ <;> refine aL_end (nav ?_) <;> try dsimp only)
             first
              | (exact aN_again (
                  ⟨((i + j) / 2 + 1, j), bs_up hB s1 (by omega) (by omega) hy (le_of_not (by simpa using hb103))⟩
                  ) (by dsimp only; omega) ⟨rfl, rfl, rfl, rfl, rfl, rfl, rfl, trivial⟩ ⟨rfl, trivial⟩)
              | (exact aN_again (
                  ⟨(i, (i + j) / 2), bs_down hB s1 (by omega) (by omega) hy (by unfold leT; simp at hb103; omega)⟩
                  ) (by dsimp only; omega) ⟨rfl, rfl, rfl, rfl, rfl, rfl, rfl, trivial⟩ ⟨rfl, trivial⟩))
          · first
            | exact Bool.noConfusion hb103
            | (
             refine nav ?_
             (refine aC_region ?_ <;> refine xL 106 q_move ?_ <;> refine xL 15 q_assign ?_ <;> refine aL_end (nav ?_) <;> try dsimp only)
             first
              | (exact aN_again (
                  ⟨((i + j) / 2 + 1, j), bs_up hB s1 (by omega) (by omega) hy (le_of_not (by simpa using hb103))⟩
                  ) (by dsimp only; omega) ⟨rfl, rfl, rfl, rfl, rfl, rfl, rfl, trivial⟩ ⟨rfl, trivial⟩)
              | (exact aN_again (
                  ⟨(i, (i + j) / 2), bs_down hB s1 (by omega) (by omega) hy (by unfold leT; simp at hb103; omega)⟩
                  ) (by dsimp only; omega) ⟨rfl, rfl, rfl, rfl, rfl, rfl, rfl, trivial⟩ ⟨rfl, trivial⟩)))
       · first
         | exact Bool.noConfusion hb85
         | (
          have hij : j = i := by omega
          subst hij
          have hbm : b = m + 1 := by omega
          subst hbm
          have hM : Mov leT a (m + 1) m j l := mov_last leT s1 (by omega) (fun q x y h4 h5 hx hy => by
           rw [hxm] at hx; cases hx; exact hB.2.2.2.1 q y h4 h5 hy) (fun q x y h4 h5 hx hy => by
           rw [hxm] at hx; cases hx; exact hB.2.2.2.2 q y h4 h5 hy)
          refine nav ?_
          (refine aC_region ?_ <;> refine xL 107 q_move ?_ <;> refine xL 17 q_assign ?_ <;> refine aL_end (nav ?_) <;> try dsimp only)
          refine aC_loop (ι := { q : Nat × List Nd // j ≤ q.1 ∧ q.1 < m + 1 ∧ Sw a (m + 1) l q.2 ∧ Mov leT a (m + 1) q.1 j q.2 }) (fun k => ⟨[(0, _, _), (1, _, _), (2, _, _), (3, _, _), (4, _, _), (14, _, _), (17, .int .i64 k.1.1, pInt k.1.1)], [(1000, hv, .own 24 3 l.length (cTrs k.1.2))]⟩) (fun k => k.1.1) ⟨(m, l), by dsimp only; omega, by dsimp only; omega, .refl _, hM⟩ (fun a w H => H.weaken ⟨rfl, rfl, rfl, rfl, rfl, rfl, rfl, trivial⟩ ⟨rfl, trivial⟩) ?_
          rintro ⟨⟨k, L⟩, hk1, hk2, hS, hM2⟩
          dsimp only
          dsimp only at hk1 hk2 hS hM2; have hLl := hS.len
          refine nav ?_
          (refine aC_region ?_ <;> refine xL 108 q_move ?_ <;> refine xL 109 q_move ?_ <;> refine xL 110 q_gtr ?_ <;> refine aL_end (nav ?_) <;> try dsimp only)
          (first | refine cCd ?_ ?_ | refine cC ?_ ?_) <;> intro hb110
          · first
            | exact Bool.noConfusion hb110
            | (
             obtain ⟨k', rfl⟩ : ∃ k', k = k' + 1 := ⟨k - 1, by omega⟩
             obtain ⟨x, hx⟩ := get_some (show k' + 1 < L.length by omega)
             obtain ⟨y, hy⟩ := get_some (show k' < L.length by omega)
             have e1 := tr_drop hx
             have e2 := tr_fit hx
             have e3 := tr_drop hy
             have e4 := tr_fit hy
             have hsw := swp_cells hx hy
             have e5 : (setL (cTrs L) ((k' + 1) * 3) (cN y)).length = (cTrs L).length := setL_len _ _ _
             refine nav ?_
             (refine aC_draw (fun i => ([] : List Nat).elem i) [] (by kernel_rfl) ?_ <;> refine xD 0 113 rfl q_move ?_ <;> refine xD 1 114 rfl q_move ?_ <;> refine xD 2 115 rfl q_move ?_ <;> refine xD 3 116 rfl q_move ?_ <;> refine xD 4 117 rfl ((q_subE (c := ((k' : Nat) : Int)))) ?_ <;> refine xD 5 118 rfl q_move ?_ <;> refine xD 6 119 rfl q_move ?_ <;> refine xD 7 120 rfl ((q_subE (c := ((k' : Nat) : Int)))) ?_ <;> refine xD 10 123 rfl q_move ?_ <;> refine xD 11 124 rfl q_move ?_ <;> (refine aD_two 8 12 (by kernel_rfl) ?_ ?_; rotate_right; (focus ((refine aW_run rfl fun w9 M9 N9 DQ back => ?_) <;> refine xL 125 (q_idxoN 1000 tSl22_PtF) ?_ <;> refine aL_end (back _ (nrm ?_)) <;> (refine aD_two 8 13 (by kernel_rfl) ?_ ?_; rotate_right; (focus ((refine aW_run rfl fun w9 M9 N9 DQ back => ?_) <;> (refine yL 126 (q_ldao 1000 tAgg24_PtF) fun v126 hv126 => ?_; cases hv126) <;> refine aL_end (back _ (nrm ?_)) <;> (refine aD_one 8 (by kernel_rfl) ?_) <;> (refine aW_run rfl fun w9 M9 N9 DQ back => ?_) <;> refine xL 121 (q_idxoN 1000 tSl22_PtF) ?_ <;> refine aL_end (back _ (nrm ?_)) <;> (refine aD_one 9 (by kernel_rfl) ?_) <;> (refine aW_run rfl fun w9 M9 N9 DQ back => ?_) <;> (refine yL 122 (q_ldao 1000 tAgg24_PtF) fun v122 hv122 => ?_; cases hv122) <;> refine aL_end (back _ (nrm ?_)) <;> refine xE 14 127 rfl (q_idxoN 1000 tSl22_PtF) ?_ <;> (refine aD_one 15 (by kernel_rfl) ?_) <;> (refine aW_run rfl fun w9 M9 N9 DQ back => ?_) <;> refine s_sta 1000 tAgg24_PtF ?_ <;> refine aL_end (back _ (nrm ?_)) <;> refine xE 16 128 rfl (q_idxoN 1000 tSl22_PtF) ?_ <;> (refine aD_one 17 (by kernel_rfl) ?_) <;> (refine aW_run rfl fun w9 M9 N9 DQ back => ?_) <;> refine s_sta 1000 tAgg24_PtF ?_ <;> refine aL_end (back _ (nrm ?_)))); rotate_right; (focus ((refine aW_run rfl fun w9 M9 N9 DQ back => ?_) <;> refine xL 121 (q_idxoN 1000 tSl22_PtF) ?_ <;> refine aL_end (back _ (nrm ?_)) <;> (refine aD_two 9 13 (by kernel_rfl) ?_ ?_; rotate_right; (focus ((refine aW_run rfl fun w9 M9 N9 DQ back => ?_) <;> (refine yL 126 (q_ldao 1000 tAgg24_PtF) fun v126 hv126 => ?_; cases hv126) <;> refine aL_end (back _ (nrm ?_)) <;> (refine aD_one 9 (by kernel_rfl) ?_) <;> (refine aW_run rfl fun w9 M9 N9 DQ back => ?_) <;> (refine yL 122 (q_ldao 1000 tAgg24_PtF) fun v122 hv122 => ?_; cases hv122) <;> refine aL_end (back _ (nrm ?_)) <;> refine xE 14 127 rfl (q_idxoN 1000 tSl22_PtF) ?_ <;> (refine aD_one 15 (by kernel_rfl) ?_) <;> (refine aW_run rfl fun w9 M9 N9 DQ back => ?_) <;> refine s_sta 1000 tAgg24_PtF ?_ <;> refine aL_end (back _ (nrm ?_)) <;> refine xE 16 128 rfl (q_idxoN 1000 tSl22_PtF) ?_ <;> (refine aD_one 17 (by kernel_rfl) ?_) <;> (refine aW_run rfl fun w9 M9 N9 DQ back => ?_) <;> refine s_sta 1000 tAgg24_PtF ?_ <;> refine aL_end (back _ (nrm ?_)))); rotate_right; (focus ((refine aW_run rfl fun w9 M9 N9 DQ back => ?_) <;> (refine yL 122 (q_ldao 1000 tAgg24_PtF) fun v122 hv122 => ?_; cases hv122) <;> refine aL_end (back _ (nrm ?_)) <;> (refine aD_one 13 (by kernel_rfl) ?_) <;> (refine aW_run rfl fun w9 M9 N9 DQ back => ?_) <;> (refine yL 126 (q_ldao 1000 tAgg24_PtF) fun v126 hv126 => ?_; cases hv126) <;> refine aL_end (back _ (nrm ?_)) <;> refine xE 14 127 rfl (q_idxoN 1000 tSl22_PtF) ?_ <;> (refine aD_one 15 (by kernel_rfl) ?_) <;> (refine aW_run rfl fun w9 M9 N9 DQ back => ?_) <;> refine s_sta 1000 tAgg24_PtF ?_ <;> refine aL_end (back _ (nrm ?_)) <;> refine xE 16 128 rfl (q_idxoN 1000 tSl22_PtF) ?_ <;> (refine aD_one 17 (by kernel_rfl) ?_) <;> (refine aW_run rfl fun w9 M9 N9 DQ back => ?_) <;> refine s_sta 1000 tAgg24_PtF ?_ <;> refine aL_end (back _ (nrm ?_)))))))))); rotate_right; (focus ((refine aW_run rfl fun w9 M9 N9 DQ back => ?_) <;> refine xL 121 (q_idxoN 1000 tSl22_PtF) ?_ <;> refine aL_end (back _ (nrm ?_)) <;> (refine aD_two 9 12 (by kernel_rfl) ?_ ?_; rotate_right; (focus ((refine aW_run rfl fun w9 M9 N9 DQ back => ?_) <;> refine xL 125 (q_idxoN 1000 tSl22_PtF) ?_ <;> refine aL_end (back _ (nrm ?_)) <;> (refine aD_two 9 13 (by kernel_rfl) ?_ ?_; rotate_right; (focus ((refine aW_run rfl fun w9 M9 N9 DQ back => ?_) <;> (refine yL 126 (q_ldao 1000 tAgg24_PtF) fun v126 hv126 => ?_; cases hv126) <;> refine aL_end (back _ (nrm ?_)) <;> (refine aD_one 9 (by kernel_rfl) ?_) <;> (refine aW_run rfl fun w9 M9 N9 DQ back => ?_) <;> (refine yL 122 (q_ldao 1000 tAgg24_PtF) fun v122 hv122 => ?_; cases hv122) <;> refine aL_end (back _ (nrm ?_)) <;> refine xE 14 127 rfl (q_idxoN 1000 tSl22_PtF) ?_ <;> (refine aD_one 15 (by kernel_rfl) ?_) <;> (refine aW_run rfl fun w9 M9 N9 DQ back => ?_) <;> refine s_sta 1000 tAgg24_PtF ?_ <;> refine aL_end (back _ (nrm ?_)) <;> refine xE 16 128 rfl (q_idxoN 1000 tSl22_PtF) ?_ <;> (refine aD_one 17 (by kernel_rfl) ?_) <;> (refine aW_run rfl fun w9 M9 N9 DQ back => ?_) <;> refine s_sta 1000 tAgg24_PtF ?_ <;> refine aL_end (back _ (nrm ?_)))); rotate_right; (focus ((refine aW_run rfl fun w9 M9 N9 DQ back => ?_) <;> (refine yL 122 (q_ldao 1000 tAgg24_PtF) fun v122 hv122 => ?_; cases hv122) <;> refine aL_end (back _ (nrm ?_)) <;> (refine aD_one 13 (by kernel_rfl) ?_) <;> (refine aW_run rfl fun w9 M9 N9 DQ back => ?_) <;> (refine yL 126 (q_ldao 1000 tAgg24_PtF) fun v126 hv126 => ?_; cases hv126) <;> refine aL_end (back _ (nrm ?_)) <;> refine xE 14 127 rfl (q_idxoN 1000 tSl22_PtF) ?_ <;> (refine aD_one 15 (by kernel_rfl) ?_) <;> (refine aW_run rfl fun w9 M9 N9 DQ back => ?_) <;> refine s_sta 1000 tAgg24_PtF ?_ <;> refine aL_end (back _ (nrm ?_)) <;> refine xE 16 128 rfl (q_idxoN 1000 tSl22_PtF) ?_ <;> (refine aD_one 17 (by kernel_rfl) ?_) <;> (refine aW_run rfl fun w9 M9 N9 DQ back => ?_) <;> refine s_sta 1000 tAgg24_PtF ?_ <;> refine aL_end (back _ (nrm ?_))))))); rotate_right; (focus ((refine aW_run rfl fun w9 M9 N9 DQ back => ?_) <;> (refine yL 122 (q_ldao 1000 tAgg24_PtF) fun v122 hv122 => ?_; cases hv122) <;> refine aL_end (back _ (nrm ?_)) <;> (refine aD_one 12 (by kernel_rfl) ?_) <;> (refine aW_run rfl fun w9 M9 N9 DQ back => ?_) <;> refine xL 125 (q_idxoN 1000 tSl22_PtF) ?_ <;> refine aL_end (back _ (nrm ?_)) <;> (refine aD_one 13 (by kernel_rfl) ?_) <;> (refine aW_run rfl fun w9 M9 N9 DQ back => ?_) <;> (refine yL 126 (q_ldao 1000 tAgg24_PtF) fun v126 hv126 => ?_; cases hv126) <;> refine aL_end (back _ (nrm ?_)) <;> refine xE 14 127 rfl (q_idxoN 1000 tSl22_PtF) ?_ <;> (refine aD_one 15 (by kernel_rfl) ?_) <;> (refine aW_run rfl fun w9 M9 N9 DQ back => ?_) <;> refine s_sta 1000 tAgg24_PtF ?_ <;> refine aL_end (back _ (nrm ?_)) <;> refine xE 16 128 rfl (q_idxoN 1000 tSl22_PtF) ?_ <;> (refine aD_one 17 (by kernel_rfl) ?_) <;> (refine aW_run rfl fun w9 M9 N9 DQ back => ?_) <;> refine s_sta 1000 tAgg24_PtF ?_ <;> refine aL_end (back _ (nrm ?_)))))))) <;> refine aD_end (by kernel_rfl) (nav ?_) <;> try dsimp only) <;> (
              (refine aC_region ?_ <;> refine xL 111 q_move ?_ <;> refine xL 112 ((q_subE (c := ((k' : Nat) : Int)))) ?_ <;> refine xL 17 q_assign ?_ <;> refine aL_end (nav ?_) <;> try dsimp only)
              rw [hsw]
              refine aN_again (
               ⟨(k', swp L (k' + 1) k'), by dsimp only; omega, by dsimp only; omega, .step _ _ hS (by omega) (by omega) (by omega) (by omega) h3, mov_left leT hM2 (by omega) (by omega) (by omega) (by omega)⟩
               ) (by dsimp only; omega) ⟨rfl, rfl, rfl, rfl, rfl, rfl, rfl, trivial⟩ ⟨rfl, trivial⟩))
          · first
            | exact Bool.noConfusion hb110
            | (
             have hkj : k = j := by omega
             subst hkj
             refine nav ?_
             refine ret_h0 (rowT hv L) (Tryz.results150) ⟨by rw [← hLl]; rfl, trivial⟩ ⟨L, hS, mov_left_end leT hM2, rfl⟩)))
    · first
      | exact Bool.noConfusion hb80
      | (
       have hlo := loM_ok h1 h2
       have hmid : (a + b) / 2 < b := by omega
       refine nav ?_
       (refine aC_region ?_ <;> refine xL 129 q_move ?_ <;> refine xL 130 q_move ?_ <;> refine xL 131 ((q_addE (c := ((a + b : Nat) : Int)))) ?_ <;> refine xL 132 ((q_toU (a := a + b) rfl rfl (by omega))) ?_ <;> refine xL 133 ((q_halfU (a := a + b) rfl)) ?_ <;> refine xL 134 ((q_ofU (a := (a + b) / 2) rfl rfl (by omega))) ?_ <;> refine xL 18 q_assign ?_ <;> refine aL_end (nav ?_) <;> try dsimp only)
       (refine aC_region ?_ <;> refine xL 135 q_move ?_ <;> refine xL 136 q_move ?_ <;> refine xL 137 ((q_addE (c := (((a + b) / 2 + m : Nat) : Int)))) ?_ <;> refine xL 19 q_assign ?_ <;> refine aL_end (nav ?_) <;> try dsimp only)
       (refine aC_region ?_ <;> refine xL 20 q_assign ?_ <;> refine xL 21 q_assign ?_ <;> refine aL_end (nav ?_) <;> try dsimp only)
       (refine aC_region ?_ <;> refine xL 138 q_move ?_ <;> refine xL 139 q_move ?_ <;> refine xL 140 q_gtr ?_ <;> refine aL_end (nav ?_) <;> try dsimp only)
       refine aC_mid (fun _ : Unit => ⟨[(0, hv, .val hv), (1, .int .i64 (a : Int), pInt a), (2, .int .i64 (m : Int), pInt m), (3, .int .i64 (b : Int), pInt b), (4, fv, .fn f []), (18, .int .i64 (((a + b) / 2 : Nat) : Int), pInt (((a + b) / 2 : Nat) : Int)), (19, .int .i64 (((a + b) / 2 + m : Nat) : Int), pInt (((a + b) / 2 + m : Nat) : Int)), (20, .int .i64 (loM a m b : Int), pInt (loM a m b)), (21, .int .i64 (hiM a m b : Int), pInt (hiM a m b))], rowT hv l⟩) ?_ ?_
       · (first | refine cCd ?_ ?_ | refine cC ?_ ?_) <;> intro hb140
         · first
           | exact Bool.noConfusion hb140
           | (
            refine nav ?_
            (refine aC_region ?_ <;> refine xL 141 q_move ?_ <;> refine xL 142 q_move ?_ <;> (refine xL 143 ((q_subE (c := ((loM a m b : Nat) : Int)) (hc := by unfold loM; rw [if_pos (by omega)]; omega))) ?_) <;> refine xL 20 q_assign ?_ <;> refine aL_end (nav ?_) <;> try dsimp only)
            (refine aC_region ?_ <;> (refine xL 144 ((q_moveE (c := ((hiM a m b : Nat) : Int)) (hc := by unfold hiM; rw [if_pos (by omega)]))) ?_) <;> refine xL 21 q_assign ?_ <;> refine aL_end (nav ?_) <;> try dsimp only)
            exact aN_join () ⟨rfl, rfl, rfl, rfl, rfl, rfl, rfl, rfl, rfl, trivial⟩ ⟨rfl, trivial⟩)
         · first
           | exact Bool.noConfusion hb140
           | (
            refine nav ?_
            (refine aC_region ?_ <;> (refine xL 145 ((q_moveE (c := ((loM a m b : Nat) : Int)) (hc := by unfold loM; rw [if_neg (by omega)]))) ?_) <;> refine xL 20 q_assign ?_ <;> refine aL_end (nav ?_) <;> try dsimp only)
            (refine aC_region ?_ <;> (refine xL 146 ((q_moveE (c := ((hiM a m b : Nat) : Int)) (hc := by unfold hiM; rw [if_neg (by omega)]))) ?_) <;> refine xL 21 q_assign ?_ <;> refine aL_end (nav ?_) <;> try dsimp only)
            exact aN_join () ⟨rfl, rfl, rfl, rfl, rfl, rfl, rfl, rfl, rfl, trivial⟩ ⟨rfl, trivial⟩)
       · intro _
         unfold rowT
         refine nav ?_
         (refine aC_region ?_ <;> refine xL 147 q_move ?_ <;> refine xL 148 ((q_subE (c := (((a + b) / 2 + m - 1 : Nat) : Int)))) ?_ <;> refine xL 22 q_assign ?_ <;> refine aL_end (nav ?_) <;> try dsimp only)
         refine aC_loop (ι := { q : Nat × Nat // Thr leT (loM a m b) (hiM a m b) ((a + b) / 2 + m - 1) q.1 q.2 l }) (fun k => ⟨[(0, _, _), (1, _, _), (2, _, _), (3, _, _), (4, _, _), (18, _, _), (19, _, _), (22, _, _), (20, .int .i64 k.1.1, pInt k.1.1), (21, .int .i64 k.1.2, pInt k.1.2)], [(1000, hv, .own 24 3 l.length (cTrs l))]⟩) (fun k => k.1.2 - k.1.1) ⟨(loM a m b, hiM a m b), thr_start leT l hlo.2.1⟩ (fun a w H => H.weaken ⟨rfl, rfl, rfl, rfl, rfl, rfl, rfl, rfl, rfl, rfl, trivial⟩ ⟨rfl, trivial⟩) ?_
         rintro ⟨⟨i, j⟩, hT⟩
         dsimp only
         dsimp only at hT; have hB1 := hT.1; have hB2 := hT.2.1; have hB3 := hT.2.2.1
         refine nav ?_
         (refine aC_region ?_ <;> refine xL 149 q_move ?_ <;> refine xL 150 q_move ?_ <;> refine xL 151 q_lss ?_ <;> refine aL_end (nav ?_) <;> try dsimp only)
         (first | refine cCd ?_ ?_ | refine cC ?_ ?_) <;> intro hb151
         · first
           | exact Bool.noConfusion hb151
           | (
            refine nav ?_
            (refine aC_region ?_ <;> refine xL 152 q_move ?_ <;> refine xL 153 q_move ?_ <;> refine xL 154 ((q_addE (c := ((i + j : Nat) : Int)))) ?_ <;> refine xL 155 ((q_toU (a := i + j) rfl rfl (by omega))) ?_ <;> refine xL 156 ((q_halfU (a := i + j) rfl)) ?_ <;> refine xL 157 ((q_ofU (a := (i + j) / 2) rfl rfl (by omega))) ?_ <;> refine xL 23 q_assign ?_ <;> refine aL_end (nav ?_) <;> try dsimp only)
            obtain ⟨x, hx⟩ := get_some (show (i + j) / 2 < l.length by omega)
            have e1 := tr_drop hx
            have e2 := tr_fit hx
            obtain ⟨y, hy⟩ := get_some (show (a + b) / 2 + m - 1 - (i + j) / 2 < l.length by omega)
            have e3 := tr_drop hy
            have e4 := tr_fit hy
            (refine aC_draw (fun i => ([] : List Nat).elem i) [1000] (by kernel_rfl) ?_ <;> refine xD 0 158 rfl q_move ?_ <;> refine xD 1 159 rfl q_move ?_ <;> refine xD 2 160 rfl q_move ?_ <;> refine xD 3 161 rfl q_move ?_ <;> refine xD 4 162 rfl ((q_subE (c := (((a + b) / 2 + m - 1 - (i + j) / 2 : Nat) : Int)))) ?_ <;> refine xD 5 163 rfl (q_idxoN 1000 tSl22_PtF) ?_ <;> (refine yD 6 164 rfl (q_ldao 1000 tAgg24_PtF) fun v164 hv164 => ?_; cases hv164) <;> refine xD 7 165 rfl q_move ?_ <;> refine xE 8 166 rfl q_move ?_ <;> refine xE 9 167 rfl (q_idxoN 1000 tSl22_PtF) ?_ <;> (refine yE 10 168 rfl (q_ldao 1000 tAgg24_PtF) fun v168 hv168 => ?_; cases hv168) <;> (refine aD_one 11 (by kernel_rfl) ?_) <;> (refine aW_call (d := 169) rfl (callF (f := f) (ps := []) rfl ⟨_, rfl⟩ hc rfl (hf y (List.mem_of_getElem? hy) x (List.mem_of_getElem? hx))) fun v169 hv169 => ?_; cases hv169) <;> refine xE 12 170 rfl q_lss ?_ <;> refine xE 13 171 rfl q_not ?_ <;> refine aD_end (by kernel_rfl) (nav ?_) <;> try dsimp only)
            (first | refine cCd ?_ ?_ | refine cC ?_ ?_) <;> intro hb171
            · first
              | exact Bool.noConfusion hb171
              | (
               refine nav ?_
               (refine aC_region ?_ <;> refine xL 172 q_move ?_ <;> refine xL 173 q_add ?_ <;> refine xL 20 q_assign ?_ <;> refine aL_end (nav ?_) <;> try dsimp only)
               first
                | (exact aN_again (
                    ⟨((i + j) / 2 + 1, j), thr_up leT_refl (fun _ _ _ => leT_trans) hT s1 s2 (by omega) (by omega) hlo.1 hlo.2.2.1 hlo.2.2.2.1 hlo.2.2.2.2.1 h3 hx hy (le_of_not (by simpa using hb171))⟩
                    ) (by dsimp only; omega) ⟨rfl, rfl, rfl, rfl, rfl, rfl, rfl, rfl, rfl, rfl, trivial⟩ ⟨rfl, trivial⟩)
                | (exact aN_again (
                    ⟨(i, (i + j) / 2), thr_down leT_refl (fun _ _ _ => leT_trans) hT s1 s2 (by omega) (by omega) hlo.1 hlo.2.2.1 hlo.2.2.2.1 hlo.2.2.2.2.1 h3 hx hy (by unfold leT; simp at hb171; omega)⟩
                    ) (by dsimp only; omega) ⟨rfl, rfl, rfl, rfl, rfl, rfl, rfl, rfl, rfl, rfl, trivial⟩ ⟨rfl, trivial⟩))
            · first
              | exact Bool.noConfusion hb171
              | (
               refine nav ?_
               (refine aC_region ?_ <;> refine xL 174 q_move ?_ <;> refine xL 21 q_assign ?_ <;> refine aL_end (nav ?_) <;> try dsimp only)
               first
                | (exact aN_again (
                    ⟨((i + j) / 2 + 1, j), thr_up leT_refl (fun _ _ _ => leT_trans) hT s1 s2 (by omega) (by omega) hlo.1 hlo.2.2.1 hlo.2.2.2.1 hlo.2.2.2.2.1 h3 hx hy (le_of_not (by simpa using hb171))⟩
                    ) (by dsimp only; omega) ⟨rfl, rfl, rfl, rfl, rfl, rfl, rfl, rfl, rfl, rfl, trivial⟩ ⟨rfl, trivial⟩)
                | (exact aN_again (
                    ⟨(i, (i + j) / 2), thr_down leT_refl (fun _ _ _ => leT_trans) hT s1 s2 (by omega) (by omega) hlo.1 hlo.2.2.1 hlo.2.2.2.1 hlo.2.2.2.2.1 h3 hx hy (by unfold leT; simp at hb171; omega)⟩
                    ) (by dsimp only; omega) ⟨rfl, rfl, rfl, rfl, rfl, rfl, rfl, rfl, rfl, rfl, trivial⟩ ⟨rfl, trivial⟩)))
         · first
           | exact Bool.noConfusion hb151
           | (
            have hij : j = i := by omega
            subst hij
            have hj1 : j ≤ (a + b) / 2 := by omega
            have hj2 : j ≤ m := by omega
            refine nav ?_
            (refine aC_region ?_ <;> refine xL 175 q_move ?_ <;> refine xL 176 q_move ?_ <;> refine xL 177 ((q_subE (c := (((a + b) / 2 + m - j : Nat) : Int)))) ?_ <;> refine xL 24 q_assign ?_ <;> refine aL_end (nav ?_) <;> try dsimp only)
            (refine aC_region ?_ <;> refine xL 178 q_move ?_ <;> refine xL 179 q_move ?_ <;> refine xL 180 q_lss ?_ <;> refine xL 181 q_move ?_ <;> (refine bLd 181 (fun hb181 => ?_) (fun hb181 => ?_) <;> (first | refine kL 182 ?_ | refine xL 182 q_move ?_)) <;> (first | refine kL 183 ?_ | refine xL 183 q_move ?_) <;> (first | refine kL 184 ?_ | refine xL 184 q_lss ?_) <;> refine xL 185 q_pick ?_ <;> refine aL_end (nav ?_) <;> try dsimp only) <;> (
             refine aC_mid (fun L1 : { L1 : List Nd // (∀ k, L1[k]? = l[rotI j m ((a + b) / 2 + m - j) k]?) ∧ Sw a b l L1 } => ⟨[(0, hv, .val hv), (1, .int .i64 (a : Int), pInt a), (2, .int .i64 (m : Int), pInt m), (3, .int .i64 (b : Int), pInt b), (4, fv, .fn f []), (18, .int .i64 (((a + b) / 2 : Nat) : Int), pInt (((a + b) / 2 : Nat) : Int)), (20, .int .i64 (j : Int), pInt j), (24, .int .i64 (((a + b) / 2 + m - j : Nat) : Int), pInt (((a + b) / 2 + m - j : Nat) : Int))], rowT hv L1.1⟩) ?_ ?_
             · (first | refine cCd ?_ ?_ | refine cC ?_ ?_) <;> intro hb185
               · first
                 | exact Bool.noConfusion hb185
                 | (
                  refine nav ?_
                  (refine aC_region ?_ <;> refine xL 186 q_move ?_ <;> refine xL 187 q_move ?_ <;> refine xL 188 q_move ?_ <;> refine xL 189 q_move ?_ <;> refine xL 190 q_move ?_ <;> (refine aL_heap (rowT hv l) ⟨rfl, trivial⟩ ?_; refine aL_ch [] 191 (Tryz.call158) (tRotate_e l hl j m ((a + b) / 2 + m - j) (by omega) (by omega) (by omega) hv fv f) (fun v191 p191 h191 hR191 => ?_); obtain ⟨L1, hL1, hS1, rfl⟩ := hR191; have hL1l := hS1.len; dsimp only [rowT]) <;> refine aL_end (nav ?_) <;> try dsimp only)
                  first
                  | exact aN_join ⟨L1, hL1, hS1.mono (by omega) (by omega) h3⟩ ⟨rfl, rfl, rfl, rfl, rfl, rfl, rfl, rfl, trivial⟩ ⟨rfl, trivial⟩
                  | exact aN_join ⟨l, fun k => by rw [rot_id (by omega) (by omega) (by omega)], .refl _⟩ ⟨rfl, rfl, rfl, rfl, rfl, rfl, rfl, rfl, trivial⟩ ⟨rfl, trivial⟩)
               · first
                 | exact Bool.noConfusion hb185
                 | (
                  refine nav ?_
                  first
                  | exact aN_join ⟨L1, hL1, hS1.mono (by omega) (by omega) h3⟩ ⟨rfl, rfl, rfl, rfl, rfl, rfl, rfl, rfl, trivial⟩ ⟨rfl, trivial⟩
                  | exact aN_join ⟨l, fun k => by rw [rot_id (by omega) (by omega) (by omega)], .refl _⟩ ⟨rfl, rfl, rfl, rfl, rfl, rfl, rfl, rfl, trivial⟩ ⟨rfl, trivial⟩)
             · rintro ⟨L1, hL1, hS1⟩
               dsimp only
               have hL1l := hS1.len
               obtain ⟨g1, g2, g3, g4, g5, g6, g7, g8, g9⟩ := merge_mid leT_refl (fun _ _ _ => leT_trans) h1 h2 h3 s1 s2 hT hL1
               have hf1 : ∀ x ∈ L1, ∀ y ∈ L1, AF Tryz.prog f [pTr x, pTr y] (· = pInt (cmpT x y)) := fun x hx y hy => hf x (sw_mem hS1 hx) y (sw_mem hS1 hy)
               unfold rowT
               refine nav ?_
               (refine aC_region ?_ <;> refine xL 192 q_move ?_ <;> refine xL 193 q_move ?_ <;> refine xL 194 q_lss ?_ <;> refine xL 195 q_move ?_ <;> (refine bLd 195 (fun hb195 => ?_) (fun hb195 => ?_) <;> (first | refine kL 196 ?_ | refine xL 196 q_move ?_)) <;> (first | refine kL 197 ?_ | refine xL 197 q_move ?_) <;> (first | refine kL 198 ?_ | refine xL 198 q_lss ?_) <;> refine xL 199 q_pick ?_ <;> refine aL_end (nav ?_) <;> try dsimp only) <;> (
                refine aC_mid (fun L2 : { L2 : List Nd // Sw a ((a + b) / 2) L1 L2 ∧ Srt leT a ((a + b) / 2) L2 } => ⟨[(0, hv, .val hv), (1, .int .i64 (a : Int), pInt a), (2, .int .i64 (m : Int), pInt m), (3, .int .i64 (b : Int), pInt b), (4, fv, .fn f []), (18, .int .i64 (((a + b) / 2 : Nat) : Int), pInt (((a + b) / 2 : Nat) : Int)), (20, .int .i64 (j : Int), pInt j), (24, .int .i64 (((a + b) / 2 + m - j : Nat) : Int), pInt (((a + b) / 2 + m - j : Nat) : Int))], rowT hv L2.1⟩) ?_ ?_
                · (first | refine cCd ?_ ?_ | refine cC ?_ ?_) <;> intro hb199
                  · first
                    | exact Bool.noConfusion hb199
                    | (
                     refine nav ?_
                     (refine aC_region ?_ <;> refine xL 200 q_move ?_ <;> refine xL 201 q_move ?_ <;> refine xL 202 q_move ?_ <;> refine xL 203 q_move ?_ <;> refine xL 204 q_move ?_ <;> (refine aL_heap (rowT hv L1) ⟨rfl, trivial⟩ ?_; refine aL_ch [] 205 (Tryz.call150) (ih L1 (by omega) hf1 a j ((a + b) / 2) (by omega) (by omega) (by omega) (by omega) g1 g2) (fun v205 p205 h205 hR205 => ?_); obtain ⟨L2, hS2, hO2, rfl⟩ := hR205; have hL2l := hS2.len; dsimp only [rowT]) <;> refine aL_end (nav ?_) <;> try dsimp only)
                     first
                     | exact aN_join ⟨L2, hS2, hO2⟩ ⟨rfl, rfl, rfl, rfl, rfl, rfl, rfl, rfl, trivial⟩ ⟨rfl, trivial⟩
                     | exact aN_join ⟨L1, .refl _, srt_two g5 g6 (by omega) g1 g2⟩ ⟨rfl, rfl, rfl, rfl, rfl, rfl, rfl, rfl, trivial⟩ ⟨rfl, trivial⟩)
                  · first
                    | exact Bool.noConfusion hb199
                    | (
                     refine nav ?_
                     first
                     | exact aN_join ⟨L2, hS2, hO2⟩ ⟨rfl, rfl, rfl, rfl, rfl, rfl, rfl, rfl, trivial⟩ ⟨rfl, trivial⟩
                     | exact aN_join ⟨L1, .refl _, srt_two g5 g6 (by omega) g1 g2⟩ ⟨rfl, rfl, rfl, rfl, rfl, rfl, rfl, rfl, trivial⟩ ⟨rfl, trivial⟩)
                · rintro ⟨L2, hS2, hO2⟩
                  dsimp only
                  have hL2l := hS2.len
                  have hf2 : ∀ x ∈ L2, ∀ y ∈ L2, AF Tryz.prog f [pTr x, pTr y] (· = pInt (cmpT x y)) := fun x hx y hy => hf1 x (sw_mem hS2 hx) y (sw_mem hS2 hy)
                  have g3' : Srt leT ((a + b) / 2) ((a + b) / 2 + m - j) L2 := g3.ext leT fun k k1 k2 => hS2.out (.inr k1)
                  have g4' : Srt leT ((a + b) / 2 + m - j) b L2 := g4.ext leT fun k k1 k2 => hS2.out (.inr (by omega))
                  unfold rowT
                  refine nav ?_
                  (refine aC_region ?_ <;> refine xL 206 q_move ?_ <;> refine xL 207 q_move ?_ <;> refine xL 208 q_lss ?_ <;> refine xL 209 q_move ?_ <;> (refine bLd 209 (fun hb209 => ?_) (fun hb209 => ?_) <;> (first | refine kL 210 ?_ | refine xL 210 q_move ?_)) <;> (first | refine kL 211 ?_ | refine xL 211 q_move ?_) <;> (first | refine kL 212 ?_ | refine xL 212 q_lss ?_) <;> refine xL 213 q_pick ?_ <;> refine aL_end (nav ?_) <;> try dsimp only) <;> (
                   (first | refine cCd ?_ ?_ | refine cC ?_ ?_) <;> intro hb213
                   · first
                     | exact Bool.noConfusion hb213
                     | (
                      refine nav ?_
                      (refine aC_region ?_ <;> refine xL 214 q_move ?_ <;> refine xL 215 q_move ?_ <;> refine xL 216 q_move ?_ <;> refine xL 217 q_move ?_ <;> refine xL 218 q_move ?_ <;> (refine aL_heap (rowT hv L2) ⟨rfl, trivial⟩ ?_; refine aL_ch [] 219 (Tryz.call150) (ih L2 (by omega) hf2 ((a + b) / 2) ((a + b) / 2 + m - j) b (by omega) (by omega) (by omega) (by omega) g3' g4') (fun v219 p219 h219 hR219 => ?_); obtain ⟨L3, hS3, hO3, rfl⟩ := hR219; have hL3l := hS3.len; dsimp only [rowT]) <;> refine aL_end (nav ?_) <;> try dsimp only)
                      first
                      | exact end_h0 (rowT hv L3) (Tryz.results150) ⟨rfl, trivial⟩ ⟨L3, hS1.trans ((hS2.mono (Nat.le_refl _) (by omega) (by omega)).trans (hS3.mono (by omega) (Nat.le_refl _) (by omega))), merge_join (by omega) (by omega) (by omega) g9 hS2 hS3 hO2 hO3, rfl⟩
                      | exact end_h0 (rowT hv L2) (Tryz.results150) ⟨rfl, trivial⟩ ⟨L2, hS1.trans (hS2.mono (Nat.le_refl _) (by omega) (by omega)), merge_join (by omega) (by omega) (by omega) g9 hS2 (.refl _) hO2 (srt_two g7 g8 (by omega) g3' g4'), rfl⟩)
                   · first
                     | exact Bool.noConfusion hb213
                     | (
                      refine nav ?_
                      first
                      | exact end_h0 (rowT hv L3) (Tryz.results150) ⟨rfl, trivial⟩ ⟨L3, hS1.trans ((hS2.mono (Nat.le_refl _) (by omega) (by omega)).trans (hS3.mono (by omega) (Nat.le_refl _) (by omega))), merge_join (by omega) (by omega) (by omega) g9 hS2 hS3 hO2 hO3, rfl⟩
                      | exact end_h0 (rowT hv L2) (Tryz.results150) ⟨rfl, trivial⟩ ⟨L2, hS1.trans (hS2.mono (Nat.le_refl _) (by omega) (by omega)), merge_join (by omega) (by omega) (by omega) g9 hS2 (.refl _) hO2 (srt_two g7 g8 (by omega) g3' g4'), rfl⟩)))))))
theorem tAgg24_PtG : AggT Tryz.prog 24 3 = true := by kernel_rfl
theorem tEl22_PtG : ElT Tryz.prog 22 24 3 48 (.agg #[(.int .i64 0), (.string ByteArray.empty), (.slice none 0 0)]) := ⟨Tryz.underlying22, by kernel_rfl, rfl, by decide⟩
theorem tSl22_PtG : SlT Tryz.prog 22 24 3 = true := by kernel_rfl
def BlkS (w n : Nat) (l : List Nd) : Prop := ∀ c, Srt leT (c * w) (min (c * w + w) n) l
theorem blk_end {w n a : Nat} {l : List Nd} (ha : ∃ c, a = c * w) (hn : n < a + w) (h : ∀ c, c * w + w ≤ a → Srt leT (c * w) (c * w + w) l) (hs : Srt leT a n l) : BlkS w n l := fun c => by
 obtain ⟨c0, rfl⟩ := ha
 rcases Nat.lt_trichotomy c c0 with h1 | h1 | h1
 · have : (c + 1) * w ≤ c0 * w := Nat.mul_le_mul_right w h1
   rw [Nat.succ_mul] at this
   exact (h c this).sub leT (Nat.le_refl _) (Nat.min_le_left _ _)
 · subst h1
   rw [Nat.min_eq_right (by omega)]; exact hs
 · have : (c0 + 1) * w ≤ c * w := Nat.mul_le_mul_right w h1
   rw [Nat.succ_mul] at this
   exact Srt.small leT l (by have := Nat.min_le_right (c * w + w) n; omega)
theorem blk_two {w n a : Nat} {l : List Nd} (h : BlkS w n l) (ha : ∃ c, a = c * (w * 2)) (hn : a + w * 2 ≤ n) : Srt leT a (a + w) l ∧ Srt leT (a + w) (a + w * 2) l := by
 obtain ⟨c, rfl⟩ := ha
 have e1 : c * 2 * w = c * (w * 2) := by rw [Nat.mul_assoc, Nat.mul_comm 2 w]
 have h1 := h (c * 2)
 have h2 := h (c * 2 + 1)
 rw [Nat.succ_mul] at h2
 rw [e1] at h1 h2
 rw [Nat.min_eq_left (by omega)] at h1 h2
 exact ⟨h1, by rw [show c * (w * 2) + w * 2 = c * (w * 2) + w + w by omega]; exact h2⟩
theorem blk_last {w n a : Nat} {l : List Nd} (h : BlkS w n l) (ha : ∃ c, a = c * (w * 2)) (hn : n < a + w * 2) (hw : 0 < w) : Srt leT a (min (a + w) n) l ∧ Srt leT (a + w) n l := by
 obtain ⟨c, rfl⟩ := ha
 have e1 : c * 2 * w = c * (w * 2) := by rw [Nat.mul_assoc, Nat.mul_comm 2 w]
 have h1 := h (c * 2)
 have h2 := h (c * 2 + 1)
 rw [Nat.succ_mul] at h2
 rw [e1] at h1 h2
 exact ⟨h1, by rw [Nat.min_eq_right (by omega)] at h2; exact h2⟩
theorem blk_all {w n : Nat} {l : List Nd} (h : BlkS w n l) (hw : n ≤ w) : Srt leT 0 n l := by
 have := h 0
 rw [Nat.zero_mul, Nat.zero_add, Nat.min_eq_right hw] at this; exact this
theorem srt_asc {l : List Nd} (h : Srt leT 0 l.length l) : AscT l := by
 rw [AscT, List.pairwise_iff_getElem]
 intro i j hi hj hij
 exact h i j _ _ (Nat.zero_le _) hij hj (List.getElem?_eq_getElem hi) (List.getElem?_eq_getElem hj)
set_option maxHeartbeats 4000000 in
theorem tStable_e (f : Nat) (hc : ∀ args w, (callFunc f args).run Tryz.prog w = .ok (.enter f args) w) (hv : Value) (fv : Value) (l : List Nd) (hl : l.length ≤ 1000000) (hf : ∀ x ∈ l, ∀ y ∈ l, AF Tryz.prog f [pTr x, pTr y] (· = pInt (cmpT x y))) : AFh False Tryz.prog 126 [(0, hv, .val hv), (1, .int .i64 (l.length : Int), pInt l.length), (2, fv, .fn f [])] (rowT hv l) (fun v q h => h = rowT hv (srtT l)) := by
 have hfp : ∀ {L : List Nd}, Sw 0 l.length l L → ∀ x ∈ L, ∀ y ∈ L, AF Tryz.prog f [pTr x, pTr y] (· = pInt (cmpT x y)) := fun hS x hx y hy => hf x (sw_mem hS hx) y (sw_mem hS hy)
 have hn : l.length ≤ l.length := Nat.le_refl _
 unfold rowT
 refine AFh.of_body 63 Tryz.func126 rfl Tryz.ntmps126 (Nat.le_of_ble_eq_true rfl) rfl ?_
 intro w0 M0 N0
 refine nav ?_
 (refine aC_region ?_ <;> refine xL 6 q_assign ?_ <;> refine aL_end (nav ?_) <;> try dsimp only)
 (refine aC_region ?_ <;> refine xL 10 q_move ?_ <;> refine xL 7 q_assign ?_ <;> refine xL 8 q_assign ?_ <;> refine aL_end (nav ?_) <;> try dsimp only)
 refine aC_loop (ι := { q : Nat × List Nd // (∃ c, q.1 = c * 20) ∧ q.1 ≤ l.length ∧ Sw 0 l.length l q.2 ∧ ∀ c, c * 20 + 20 ≤ q.1 → Srt leT (c * 20) (c * 20 + 20) q.2 }) (fun k => ⟨[(0, _, _), (1, _, _), (2, _, _), (6, _, _), (7, .int .i64 k.1.1, pInt k.1.1), (8, .int .i64 ((k.1.1 + 20 : Nat) : Int), pInt ((k.1.1 + 20 : Nat) : Int))], [(1000, hv, .own 24 3 l.length (cTrs k.1.2))]⟩) (fun k => l.length - k.1.1) ⟨(0, l), ⟨0, rfl⟩, Nat.zero_le _, .refl _, fun c h => by dsimp only at h; omega⟩ (fun a w H => H.weaken ⟨rfl, rfl, rfl, rfl, rfl, rfl, trivial⟩ ⟨rfl, trivial⟩) ?_
 rintro ⟨⟨a, L⟩, ha, han, hS, hO⟩
 dsimp only
 dsimp only at ha han hS hO; have hLl := hS.len
 refine nav ?_
 (refine aC_region ?_ <;> refine xL 11 q_move ?_ <;> refine xL 12 q_move ?_ <;> refine xL 13 q_leq ?_ <;> refine aL_end (nav ?_) <;> try dsimp only)
 (first | refine cCd ?_ ?_ | refine cC ?_ ?_) <;> intro hb13
 · first
   | exact Bool.noConfusion hb13
   | (
    refine nav ?_
    (refine aC_region ?_ <;> refine xL 14 q_move ?_ <;> refine xL 15 q_move ?_ <;> refine xL 16 q_move ?_ <;> refine xL 17 q_move ?_ <;> (refine aL_heap (rowT hv L) ⟨by rw [← hLl]; rfl, trivial⟩ ?_; refine aL_ch [] 18 (Tryz.call149) (tIns_e f hc L (by omega) (hfp hS) a (a + 20) (by omega) (by omega) hv fv) (fun v18 p18 h18 hR18 => ?_); obtain ⟨L2, hS2, hO2, rfl⟩ := hR18; have hL2l := hS2.len; dsimp only [rowT]; rw [hL2l, hLl]) <;> refine aL_end (nav ?_) <;> try dsimp only)
    (refine aC_region ?_ <;> refine xL 19 q_move ?_ <;> refine xL 7 q_assign ?_ <;> refine aL_end (nav ?_) <;> try dsimp only)
    (refine aC_region ?_ <;> refine xL 20 q_move ?_ <;> refine xL 21 q_move ?_ <;> refine xL 22 ((q_addE (c := ((a + 20 + 20 : Nat) : Int)))) ?_ <;> refine xL 8 q_assign ?_ <;> refine aL_end (nav ?_) <;> try dsimp only)
    refine aN_again (
     ⟨(a + 20, L2), by obtain ⟨c, hc'⟩ := ha; exact ⟨c + 1, by dsimp only; omega⟩, by dsimp only; omega, hS.trans (hS2.mono (Nat.zero_le _) (by omega) (by omega)), fun c h => by
       dsimp only at h ⊢
       obtain ⟨c0, hc0⟩ := ha
       rcases Nat.lt_or_ge c c0 with h1 | h1
       · exact (hO c (by omega)).ext leT fun k k1 k2 => hS2.out (.inl (by omega))
       · have : c = c0 := by omega
         subst this; rw [← hc0]; exact hO2⟩
     ) (by dsimp only; omega) ⟨rfl, rfl, rfl, rfl, rfl, rfl, trivial⟩ ⟨rfl, trivial⟩)
 · first
   | exact Bool.noConfusion hb13
   | (
    have hna : l.length < a + 20 := by omega
    refine nav ?_
    (refine aC_region ?_ <;> refine xL 23 q_move ?_ <;> refine xL 24 q_move ?_ <;> refine xL 25 q_move ?_ <;> refine xL 26 q_move ?_ <;> (refine aL_heap (rowT hv L) ⟨by rw [← hLl]; rfl, trivial⟩ ?_; refine aL_ch [] 27 (Tryz.call149) (tIns_e f hc L (by omega) (hfp hS) a l.length (by omega) (by omega) hv fv) (fun v27 p27 h27 hR27 => ?_); obtain ⟨L1, hS1, hO1, rfl⟩ := hR27; have hL1l := hS1.len; dsimp only [rowT]; rw [hL1l, hLl]; have hS1' : Sw 0 l.length l L1 := hS.trans (hS1.mono (Nat.zero_le _) (Nat.le_refl _) (by omega)); have hB1 : BlkS 20 l.length L1 := blk_end ha hna (fun c h => (hO c h).ext leT fun k k1 k2 => hS1.out (.inl (by omega))) hO1) <;> refine aL_end (nav ?_) <;> try dsimp only)
    refine aC_loop (ι := { q : Nat × List Nd // 1 ≤ q.1 ∧ q.1 ≤ 2000000 ∧ Sw 0 l.length l q.2 ∧ BlkS q.1 l.length q.2 }) (fun k => ⟨[(0, _, _), (1, _, _), (2, _, _), (6, .int .i64 k.1.1, pInt k.1.1)], [(1000, hv, .own 24 3 l.length (cTrs k.1.2))]⟩) (fun k => l.length - k.1.1) ⟨(20, L1), by dsimp only; omega, by dsimp only; omega, hS1', hB1⟩ (fun a w H => H.weaken ⟨rfl, rfl, rfl, rfl, trivial⟩ ⟨rfl, trivial⟩) ?_
    rintro ⟨⟨w, L⟩, hw1, hw2, hS, hB⟩
    dsimp only
    dsimp only at hw1 hw2 hS hB; have hLl := hS.len
    refine nav ?_
    (refine aC_region ?_ <;> refine xL 28 q_move ?_ <;> refine xL 29 q_move ?_ <;> refine xL 30 q_lss ?_ <;> refine aL_end (nav ?_) <;> try dsimp only)
    (first | refine cCd ?_ ?_ | refine cC ?_ ?_) <;> intro hb30
    · first
      | exact Bool.noConfusion hb30
      | (
       refine nav ?_
       (refine aC_region ?_ <;> refine xL 31 q_move ?_ <;> refine xL 32 ((q_mulE (c := ((w * 2 : Nat) : Int)))) ?_ <;> refine xL 7 q_assign ?_ <;> refine xL 8 q_assign ?_ <;> refine aL_end (nav ?_) <;> try dsimp only)
       refine aC_loop (ι := { q : Nat × List Nd // (∃ c, q.1 = c * (w * 2)) ∧ q.1 ≤ l.length ∧ Sw 0 l.length l q.2 ∧ (∀ c, c * (w * 2) + w * 2 ≤ q.1 → Srt leT (c * (w * 2)) (c * (w * 2) + w * 2) q.2) ∧ ∀ k, q.1 ≤ k → q.2[k]? = L[k]? }) (fun k => ⟨[(0, _, _), (1, _, _), (2, _, _), (6, _, _), (7, .int .i64 k.1.1, pInt k.1.1), (8, .int .i64 ((w * 2 + k.1.1 : Nat) : Int), pInt ((w * 2 + k.1.1 : Nat) : Int))], [(1000, hv, .own 24 3 l.length (cTrs k.1.2))]⟩) (fun k => l.length - k.1.1) ⟨(0, L), ⟨0, (Nat.zero_mul _).symm⟩, Nat.zero_le _, hS, fun c h => by dsimp only at h; omega, fun _ _ => rfl⟩ (fun a w H => H.weaken ⟨rfl, rfl, rfl, rfl, rfl, rfl, trivial⟩ ⟨rfl, trivial⟩) ?_
       rintro ⟨⟨a, K⟩, ha, han, hSK, hO, hU⟩
       dsimp only
       dsimp only at ha han hSK hO hU; have hKl := hSK.len
       refine nav ?_
       (refine aC_region ?_ <;> refine xL 33 q_move ?_ <;> refine xL 34 q_move ?_ <;> refine xL 35 q_leq ?_ <;> refine aL_end (nav ?_) <;> try dsimp only)
       (first | refine cCd ?_ ?_ | refine cC ?_ ?_) <;> intro hb35
       · first
         | exact Bool.noConfusion hb35
         | (
          have hab : a + w * 2 ≤ l.length := by omega
          have hb2 := blk_two hB ha hab
          have g1 : Srt leT a (a + w) K := hb2.1.ext leT fun k k1 k2 => hU k k1
          have g2 : Srt leT (a + w) (w * 2 + a) K := by rw [Nat.add_comm (w * 2) a]; exact hb2.2.ext leT fun k k1 k2 => hU k (by omega)
          refine nav ?_
          (refine aC_region ?_ <;> refine xL 36 q_move ?_ <;> refine xL 37 q_move ?_ <;> refine xL 38 q_move ?_ <;> refine xL 39 q_move ?_ <;> refine xL 40 ((q_addE (c := ((a + w : Nat) : Int)))) ?_ <;> refine xL 41 q_move ?_ <;> refine xL 42 q_move ?_ <;> (refine aL_heap (rowT hv K) ⟨by rw [← hKl]; rfl, trivial⟩ ?_; refine aL_ch [] 43 (Tryz.call150) (tSym_e f hc hv fv _ K (by omega) (hfp hSK) a (a + w) (w * 2 + a) (Nat.le_refl _) (by omega) (by omega) (by omega) g1 g2) (fun v43 p43 h43 hR43 => ?_); obtain ⟨K2, hS2, hO2, rfl⟩ := hR43; have hK2l := hS2.len; dsimp only [rowT]; rw [hK2l, hKl]) <;> refine aL_end (nav ?_) <;> try dsimp only)
          (refine aC_region ?_ <;> refine xL 44 q_move ?_ <;> refine xL 7 q_assign ?_ <;> refine aL_end (nav ?_) <;> try dsimp only)
          (refine aC_region ?_ <;> refine xL 45 q_move ?_ <;> refine xL 46 q_move ?_ <;> refine xL 47 ((q_mulE (c := ((w * 2 : Nat) : Int)))) ?_ <;> refine xL 48 ((q_addE (c := ((w * 2 + (w * 2 + a) : Nat) : Int)))) ?_ <;> refine xL 8 q_assign ?_ <;> refine aL_end (nav ?_) <;> try dsimp only)
          refine aN_again (
           ⟨(w * 2 + a, K2), by obtain ⟨c, hc'⟩ := ha; exact ⟨c + 1, by dsimp only; rw [Nat.succ_mul]; omega⟩, by dsimp only; omega, hSK.trans (hS2.mono (Nat.zero_le _) (by omega) (by omega)), fun c h => by
             dsimp only at h ⊢
             obtain ⟨c0, hc0⟩ := ha
             rcases Nat.lt_trichotomy c c0 with h1 | h1 | h1
             · have : (c + 1) * (w * 2) ≤ c0 * (w * 2) := Nat.mul_le_mul_right _ h1
               rw [Nat.succ_mul] at this
               exact (hO c (by omega)).ext leT fun k k1 k2 => hS2.out (.inl (by omega))
             · subst h1; rw [← hc0, Nat.add_comm a (w * 2)]; exact hO2
             · have : (c0 + 1) * (w * 2) ≤ c * (w * 2) := Nat.mul_le_mul_right _ h1
               rw [Nat.succ_mul] at this
               omega, fun k hk => by dsimp only at hk ⊢; rw [hS2.out (.inr hk)]; exact hU k (by omega)⟩
           ) (by dsimp only; omega) ⟨rfl, rfl, rfl, rfl, rfl, rfl, trivial⟩ ⟨rfl, trivial⟩)
       · first
         | exact Bool.noConfusion hb35
         | (
          have hna : l.length < a + w * 2 := by omega
          have hb3 := blk_last hB ha hna hw1
          have g1 : Srt leT a (min (a + w) l.length) K := hb3.1.ext leT fun k k1 k2 => hU k k1
          have g2 : Srt leT (a + w) l.length K := hb3.2.ext leT fun k k1 k2 => hU k (by omega)
          refine nav ?_
          (refine aC_region ?_ <;> refine xL 49 q_move ?_ <;> refine xL 50 q_move ?_ <;> refine xL 51 ((q_addE (c := ((a + w : Nat) : Int)))) ?_ <;> refine xL 9 q_assign ?_ <;> refine aL_end (nav ?_) <;> try dsimp only)
          (refine aC_region ?_ <;> refine xL 52 q_move ?_ <;> refine xL 53 q_move ?_ <;> refine xL 54 q_lss ?_ <;> refine aL_end (nav ?_) <;> try dsimp only)
          (first | refine cCd ?_ ?_ | refine cC ?_ ?_) <;> intro hb54
          · first
            | exact Bool.noConfusion hb54
            | (
             rw [Nat.min_eq_left (by omega)] at g1
             refine nav ?_
             (refine aC_region ?_ <;> refine xL 55 q_move ?_ <;> refine xL 56 q_move ?_ <;> refine xL 57 q_move ?_ <;> refine xL 58 q_move ?_ <;> refine xL 59 q_move ?_ <;> (refine aL_heap (rowT hv K) ⟨by rw [← hKl]; rfl, trivial⟩ ?_; refine aL_ch [] 60 (Tryz.call150) (tSym_e f hc hv fv _ K (by omega) (hfp hSK) a (a + w) l.length (Nat.le_refl _) (by omega) (by omega) (by omega) g1 g2) (fun v60 p60 h60 hR60 => ?_); obtain ⟨K2, hS2, hO2, rfl⟩ := hR60; have hK2l := hS2.len; dsimp only [rowT]; rw [hK2l, hKl]) <;> refine aL_end (nav ?_) <;> try dsimp only)
             (refine aC_region ?_ <;> refine xL 61 q_move ?_ <;> refine xL 62 ((q_mulE (c := ((w * 2 : Nat) : Int)))) ?_ <;> refine xL 6 q_assign ?_ <;> refine aL_end (nav ?_) <;> try dsimp only)
             first
              | (exact aN_again (
                  ⟨(w * 2, K), by dsimp only; omega, by dsimp only; omega, hSK, blk_end ha hna hO g1⟩
                  ) (by dsimp only; omega) ⟨rfl, rfl, rfl, rfl, trivial⟩ ⟨rfl, trivial⟩)
              | (exact aN_again (
                  ⟨(w * 2, K2), by dsimp only; omega, by dsimp only; omega, hSK.trans (hS2.mono (Nat.zero_le _) (by omega) (by omega)), show BlkS (w * 2) l.length K2 from blk_end ha hna (fun c h => (hO c h).ext leT fun k k1 k2 => hS2.out (.inl (by omega))) hO2⟩
                  ) (by dsimp only; omega) ⟨rfl, rfl, rfl, rfl, trivial⟩ ⟨rfl, trivial⟩))
          · first
            | exact Bool.noConfusion hb54
            | (
             rw [Nat.min_eq_right (by omega)] at g1
             refine nav ?_
             (refine aC_region ?_ <;> refine xL 61 q_move ?_ <;> refine xL 62 ((q_mulE (c := ((w * 2 : Nat) : Int)))) ?_ <;> refine xL 6 q_assign ?_ <;> refine aL_end (nav ?_) <;> try dsimp only)
             first
              | (exact aN_again (
                  ⟨(w * 2, K), by dsimp only; omega, by dsimp only; omega, hSK, blk_end ha hna hO g1⟩
                  ) (by dsimp only; omega) ⟨rfl, rfl, rfl, rfl, trivial⟩ ⟨rfl, trivial⟩)
              | (exact aN_again (
                  ⟨(w * 2, K2), by dsimp only; omega, by dsimp only; omega, hSK.trans (hS2.mono (Nat.zero_le _) (by omega) (by omega)), show BlkS (w * 2) l.length K2 from blk_end ha hna (fun c h => (hO c h).ext leT fun k k1 k2 => hS2.out (.inl (by omega))) hO2⟩
                  ) (by dsimp only; omega) ⟨rfl, rfl, rfl, rfl, trivial⟩ ⟨rfl, trivial⟩))))
    · first
      | exact Bool.noConfusion hb30
      | (
       refine nav ?_
       have hso := blk_all hB (by omega)
       rw [← hLl] at hso
       refine end_h0 [(1000, hv, .own 24 3 l.length (cTrs L))] (Tryz.results126) ⟨rfl, trivial⟩ ?_
       rw [← srtT_eq (srt_asc hso) hS.perm]
       rw [hLl]))
theorem tSortSt_e (f : Nat) (hc : ∀ args w, (callFunc f args).run Tryz.prog w = .ok (.enter f args) w) (hv : Value) (fv : Value) (l : List Nd) (hl : l.length ≤ 1000000) (hf : ∀ x ∈ l, ∀ y ∈ l, AF Tryz.prog f [pTr x, pTr y] (· = pInt (cmpT x y))) : AFh False Tryz.prog 96 [(0, hv, .val hv), (1, fv, .fn f [])] (rowT hv l) (fun v q h => h = rowT hv (srtT l)) := by
 unfold rowT
 refine AFh.of_body 9 Tryz.func96 rfl Tryz.ntmps96 (Nat.le_of_ble_eq_true rfl) rfl ?_
 intro w0 M0 N0
 refine nav ?_
 (refine aC_region ?_ <;> refine xL 4 q_move ?_ <;> refine xL 5 q_move ?_ <;> refine xL 6 (q_leno 1000 tSl22_PtG) ?_ <;> refine xL 7 q_move ?_ <;> (refine aL_heap (rowT hv l) ⟨rfl, trivial⟩ ?_; refine aL_ch [] 8 (Tryz.call126) (tStable_e f hc hv fv l hl hf) (fun v8 p8 h8 hR8 => ?_); subst hR8; dsimp only [rowT]) <;> refine aL_end (nav ?_) <;> try dsimp only)
 exact end_h0 (rowT hv (srtT l)) (Tryz.results96) ⟨rfl, trivial⟩ rfl
theorem cpt_one {l : List Nd} (h : 1 ≤ l.length) : cptT (l.take 1) = l.take 1 := by
 cases l with
 | nil => simp at h
 | cons x l => rfl
theorem cpt_same {l : List Nd} (hs : AscT l) {p : Nat} {x y : Nd} (hy : l[p]? = some y) (hx : l[p + 1]? = some x) (he : sameT x y = true) : cptT (l.take (p + 1 + 1)) = cptT (l.take (p + 1)) := by
 have e := sameT_iff.1 he
 subst e
 refine str_uniq (cptT_str _ (hs.sublist (List.take_sublist _ _))) (cptT_str _ (hs.sublist (List.take_sublist _ _))) fun z => ?_
 rw [cptT_mem, cptT_mem, take_snoc hx, List.mem_append, List.mem_singleton]
 exact ⟨fun h => h.elim id fun h => by subst h; rw [take_snoc hy]; exact List.mem_append_right _ (List.mem_singleton.2 rfl), .inl⟩
theorem asc_get {l : List Nd} (hs : AscT l) {i j : Nat} {x y : Nd} (hij : i < j) (hx : l[i]? = some x) (hy : l[j]? = some y) : leT x y := by
 obtain ⟨h1, rfl⟩ := List.getElem?_eq_some_iff.1 hx
 obtain ⟨h2, rfl⟩ := List.getElem?_eq_some_iff.1 hy
 exact List.pairwise_iff_getElem.1 hs i j h1 h2 hij
theorem cpt_new {l : List Nd} (hs : AscT l) {p : Nat} {x y : Nd} (hy : l[p]? = some y) (hx : l[p + 1]? = some x) (he : sameT x y = false) : cptT (l.take (p + 1 + 1)) = cptT (l.take (p + 1)) ++ [x] := by
 have hyx : cmpT y x < 0 := le_ne_lt (asc_get hs (by omega) hy hx) fun e => by rw [sameT_iff.2 e.symm] at he; cases he
 refine str_uniq (cptT_str _ (hs.sublist (List.take_sublist _ _))) ?_ fun z => ?_
 · refine List.pairwise_append.2 ⟨cptT_str _ (hs.sublist (List.take_sublist _ _)), List.pairwise_singleton .., fun z hz w hw => ?_⟩
   rw [List.mem_singleton.1 hw]
   rw [cptT_mem] at hz
   obtain ⟨i, hi⟩ := List.getElem?_of_mem hz
   have hi' := lt_of_get hi
   rw [List.length_take] at hi'
   rw [List.getElem?_take_of_lt (by omega)] at hi
   by_cases e : i = p
   · subst e; rw [hi] at hy; cases hy; exact hyx
   · have h := asc_get hs (show i < p by omega) hi hy
     by_cases e2 : z = y
     · subst e2; exact hyx
     · have := le_ne_lt h e2
       have t1 := cmpT_tri z y; have t2 := cmpT_tri y x
       have := cmpT_lt z y x (by omega) (by omega)
       omega
 · rw [List.mem_append, cptT_mem, List.mem_singleton, take_snoc hx, cptT_mem, List.mem_append, List.mem_singleton]
theorem flat_takeP {α β : Type} {f : α → List β} {m : Nat} (hf : ∀ x, (f x).length = m) : ∀ (L : List α) (k : Nat), (L.flatMap f).take (k * m) = (L.take k).flatMap f
 | [], k => by simp
 | x :: L, 0 => by simp
 | x :: L, k + 1 => by
   rw [List.take_succ_cons, List.flatMap_cons, List.flatMap_cons, ← flat_takeP hf L k, List.take_append, List.take_of_length_le (by rw [hf, Nat.add_mul]; omega), hf, show (k + 1) * m - m = k * m by rw [Nat.add_mul]; omega]
theorem slc_one {hv : Value} (h : hv.oneCell' = true) (i j k : Nat) : (slc hv i j k).oneCell' = true := by
 unfold slc; split
 · rfl
 · exact h
set_option maxHeartbeats 2000000 in
theorem tCompactFn_e (f : Nat) (hc : ∀ args w, (callFunc f args).run Tryz.prog w = .ok (.enter f args) w) (fv : Value) (l : List Nd) (hl : l.length ≤ 1000000) (hs : AscT l) (hf : ∀ x ∈ l, ∀ y ∈ l, AF Tryz.prog f [pTr x, pTr y] (· = pBool (sameT x y))) (hv : Value) (hvo : hv.oneCell' = true) : AFh False Tryz.prog 97 [(0, hv, .val hv), (1, fv, .fn f [])] [(1000, hv, .own 24 3 l.length (cTrs l))] (fun v q h => v.oneCell' = true ∧ q = .val v ∧ h = [(1000, v, .own 24 3 (cptT l).length (cTrs (cptT l)))]) := by
 refine AFh.of_body 66 Tryz.func97 rfl Tryz.ntmps97 (Nat.le_of_ble_eq_true rfl) rfl ?_
 intro w0 M0 N0
 refine nav ?_
 (refine aC_region ?_ <;> refine xL 4 q_assign ?_ <;> refine aL_end (nav ?_) <;> try dsimp only)
 (refine aC_region ?_ <;> refine xL 8 q_move ?_ <;> refine xL 9 (q_leno 1000 tSl22_PtG) ?_ <;> refine xL 10 q_lss ?_ <;> refine aL_end (nav ?_) <;> try dsimp only)
 (first | refine cCd ?_ ?_ | refine cC ?_ ?_) <;> intro hb10
 · first
   | exact Bool.noConfusion hb10
   | (
    refine nav ?_
    (refine aC_region ?_ <;> refine xL 11 q_move ?_ <;> refine xL 4 q_assign ?_ <;> refine aL_end (nav ?_) <;> try dsimp only)
    refine ret_h [(1000, hv, PV.own 24 3 l.length (cTrs l))] (Tryz.results97) rfl ⟨rfl, trivial⟩ ⟨hvo, rfl, ?_⟩
    have hm : cptT l = l := by
     match l, hl, hb10 with
     | [], _, _ => rfl
     | [_], _, _ => rfl
     | _ :: _ :: _, _, h => simp at h; omega
    rw [hm])
 · first
   | exact Bool.noConfusion hb10
   | (
    refine nav ?_
    (refine aC_region ?_ <;> refine xL 5 q_assign ?_ <;> refine aL_end (nav ?_) <;> try dsimp only)
    refine aC_loop (ι := { k : Nat // 1 ≤ k ∧ k ≤ l.length ∧ cptT (l.take k) = l.take k }) (fun k => ⟨[(0, _, _), (1, _, _), (5, .int .i64 k.1, pInt k.1)], [(1000, _, _)]⟩) (fun k => l.length - k.1) ⟨1, Nat.le_refl _, by omega, cpt_one (by omega)⟩ (fun a w H => H.weaken ⟨rfl, rfl, rfl, trivial⟩ ⟨rfl, trivial⟩) ?_
    rintro ⟨k1, hk1, hk, hmk⟩
    dsimp only
    obtain ⟨k, rfl⟩ : ∃ k, k1 = k + 1 := ⟨k1 - 1, by omega⟩
    refine nav ?_
    (refine aC_region ?_ <;> refine xL 12 q_move ?_ <;> refine xL 13 q_move ?_ <;> refine xL 14 (q_leno 1000 tSl22_PtG) ?_ <;> refine xL 15 q_lss ?_ <;> refine aL_end (nav ?_) <;> try dsimp only)
    (first | refine cCd ?_ ?_ | refine cC ?_ ?_) <;> intro hb15
    · first
      | exact Bool.noConfusion hb15
      | (
       obtain ⟨x, hx⟩ := get_some (show k + 1 < l.length by omega)
       obtain ⟨y, hy⟩ := get_some (show k < l.length by omega)
       have e1 := tr_drop hx
       have e2 := tr_fit hx
       have e3 := tr_drop hy
       have e4 := tr_fit hy
       have hlt : k + 1 < l.length := lt_of_get hx
       refine nav ?_
       (refine aC_draw (fun i => ([] : List Nat).elem i) [1000] (by kernel_rfl) ?_ <;> refine xD 0 18 rfl q_move ?_ <;> refine xD 1 19 rfl q_move ?_ <;> refine xD 2 20 rfl q_move ?_ <;> refine xD 3 21 rfl (q_idxoN 1000 tSl22_PtG) ?_ <;> (refine yD 4 22 rfl (q_ldao 1000 tAgg24_PtG) fun v22 hv22 => ?_; cases hv22) <;> refine xD 5 23 rfl q_move ?_ <;> refine xE 6 24 rfl q_move ?_ <;> refine xE 7 25 rfl ((q_subE (c := ((k : Nat) : Int)))) ?_ <;> refine xE 8 26 rfl (q_idxoN 1000 tSl22_PtG) ?_ <;> (refine yE 9 27 rfl (q_ldao 1000 tAgg24_PtG) fun v27 hv27 => ?_; cases hv27) <;> (refine aD_one 10 (by kernel_rfl) ?_) <;> (refine aW_call (d := 28) rfl (callF (f := f) (ps := []) rfl ⟨_, rfl⟩ hc rfl (hf x (List.mem_of_getElem? hx) y (List.mem_of_getElem? hy))) fun v28 hv28 => ?_; cases hv28) <;> refine aD_end (by kernel_rfl) (nav ?_) <;> try dsimp only)
       (first | refine cCd ?_ ?_ | refine cC ?_ ?_) <;> intro hb28
       · first
         | exact Bool.noConfusion hb28
         | (
          have hsm := cpt_same hs hy hx (by unfold sameT; simpa using hb28)
          have hl1 : (cptT (l.take (k + 1 + 1))).length = k + 1 := by rw [hsm, hmk, List.length_take]; omega
          refine nav ?_
          (refine aC_region ?_ <;> refine xL 29 q_move ?_ <;> refine xL 30 q_move ?_ <;> refine xL 31 (y_slc_own (i := k + 1) (j := l.length) 1000 tSl22_PtG rfl rfl rfl rfl rfl (Nat.le_of_lt hlt) (Nat.le_refl _)) ?_ <;> refine xL 6 q_assign ?_ <;> refine aL_end (nav ?_) <;> try dsimp only)
          (refine aC_region ?_ <;> refine xL 7 q_assign ?_ <;> refine aL_end (nav ?_) <;> try dsimp only)
          refine aC_loop (ι := { q : Nat × Nat × List Nd // 1 ≤ q.1 ∧ k + 1 + q.1 ≤ l.length ∧ q.2.1 = (cptT (l.take (k + 1 + q.1))).length ∧ q.2.2.length = l.length ∧ q.2.2.take q.2.1 = cptT (l.take (k + 1 + q.1)) ∧ q.2.1 ≤ k + q.1 ∧ ∀ i, k + q.1 ≤ i → q.2.2[i]? = l[i]? }) (fun k => ⟨[(0, _, _), (1, _, _), (6, _, _), (5, .int .i64 k.1.2.1, pInt k.1.2.1), (7, .int .i64 k.1.1, pInt k.1.1)], [(1000, hv, .own 24 3 l.length (cTrs k.1.2.2))]⟩) (fun k => l.length - k.1.1) ⟨(1, k + 1, l), Nat.le_refl _, by dsimp only; omega, hl1.symm, rfl, by dsimp only; rw [hsm, hmk], Nat.le_refl _, fun i _ => rfl⟩ (fun a w H => H.weaken ⟨rfl, rfl, rfl, rfl, rfl, trivial⟩ ⟨rfl, trivial⟩) ?_
          rintro ⟨⟨j, K, L⟩, hj1, hj, hK, hLl, hLt, hKj, hLr⟩
          dsimp only
          dsimp only at hj1 hj hK hLl hLt hKj hLr
          obtain ⟨j', rfl⟩ : ∃ j', j = j' + 1 := ⟨j - 1, by omega⟩
          have hK2 : (K : Int) ≤ 1000000 := by omega
          rw [show k + 1 + (j' + 1) = k + 1 + j' + 1 from rfl] at hK hLt
          refine nav ?_
          (refine aC_region ?_ <;> refine xL 32 q_move ?_ <;> refine xL 33 q_move ?_ <;> refine xL 34 ((y_len_slc (a := k + 1) (m := l.length - (k + 1)) 1000 tSl22_PtG rfl rfl rfl rfl)) ?_ <;> refine xL 35 q_lss ?_ <;> refine aL_end (nav ?_) <;> try dsimp only)
          (first | refine cCd ?_ ?_ | refine cC ?_ ?_) <;> intro hb35
          · first
            | exact Bool.noConfusion hb35
            | (
             obtain ⟨u, hu⟩ := get_some (show k + 1 + (j' + 1) < l.length by omega)
             obtain ⟨v, hv2⟩ := get_some (show k + 1 + j' < l.length by omega)
             have hu' : L[k + 1 + (j' + 1)]? = some u := by rw [hLr _ (by omega)]; exact hu
             have hv' : L[k + 1 + j']? = some v := by rw [hLr _ (by omega)]; exact hv2
             have g1 := tr_drop hu'
             have g2 := tr_fit hu'
             have g3 := tr_drop hv'
             have g4 := tr_fit hv'
             have g5 : K < L.length := by omega
             have g6 : K * 3 + 3 ≤ (cTrs L).length := by rw [cTrs_len]; omega
             refine nav ?_
             (refine aC_draw (fun i => ([] : List Nat).elem i) [1000] (by kernel_rfl) ?_ <;> refine xD 0 38 rfl q_move ?_ <;> refine xD 1 39 rfl q_move ?_ <;> refine xD 2 40 rfl q_move ?_ <;> refine xD 3 41 rfl ((y_idx_slc (a := k + 1) (m := (k + 1 + (j' + 1)) * 3) 1000 tSl22_PtG rfl rfl rfl rfl (by omega) (by omega) (by omega))) ?_ <;> (refine yD 4 42 rfl (q_ldao 1000 tAgg24_PtG) fun v42 hv42 => ?_; cases hv42) <;> refine xD 5 43 rfl q_move ?_ <;> refine xE 6 44 rfl q_move ?_ <;> refine xE 7 45 rfl ((q_subE (c := ((j' : Nat) : Int)))) ?_ <;> refine xE 8 46 rfl ((y_idx_slc (a := k + 1) (m := (k + 1 + j') * 3) 1000 tSl22_PtG rfl rfl rfl rfl (by omega) (by omega) (by omega))) ?_ <;> (refine yE 9 47 rfl (q_ldao 1000 tAgg24_PtG) fun v47 hv47 => ?_; cases hv47) <;> (refine aD_one 10 (by kernel_rfl) ?_) <;> (refine aW_call (d := 48) rfl (callF (f := f) (ps := []) rfl ⟨_, rfl⟩ hc rfl (hf u (List.mem_of_getElem? hu) v (List.mem_of_getElem? hv2))) fun v48 hv48 => ?_; cases hv48) <;> refine xE 11 49 rfl q_not ?_ <;> refine aD_end (by kernel_rfl) (nav ?_) <;> try dsimp only)
             (first | refine cCd ?_ ?_ | refine cC ?_ ?_) <;> intro hb49
             · first
               | exact Bool.noConfusion hb49
               | (
                have hnw2 := cpt_new hs hv2 hu (by simpa using hb49)
                have hset := setL_tr L K u g5
                have hlen2 : K + 1 = (cptT (l.take (k + 1 + j' + 1 + 1))).length := by rw [hnw2, List.length_append, List.length_singleton, hK]
                have htk2 : (L.set K u).take (K + 1) = cptT (l.take (k + 1 + j' + 1 + 1)) := by
                 rw [hnw2, ← hLt, List.take_set, take_snoc (List.getElem?_eq_getElem g5), List.set_append_right _ _ (by rw [List.length_take]; omega), List.length_take, Nat.min_eq_left (by omega), Nat.sub_self]; rfl
                refine nav ?_
                (refine aC_region ?_ <;> refine xL 50 q_move ?_ <;> refine xL 51 q_move ?_ <;> refine xL 52 q_move ?_ <;> refine xL 53 q_move ?_ <;> refine xL 54 ((y_idx_slc (a := k + 1) (m := (k + 1 + (j' + 1)) * 3) 1000 tSl22_PtG rfl rfl rfl rfl (by omega) (by omega) (by omega))) ?_ <;> (refine yL 55 (q_ldao 1000 tAgg24_PtG) fun v55 hv55 => ?_; cases hv55) <;> refine xL 56 (q_idxoN 1000 tSl22_PtG) ?_ <;> refine s_sta 1000 tAgg24_PtG ?_ <;> refine aL_end (nav ?_) <;> try dsimp only)
                (refine aC_region ?_ <;> refine xL 57 q_move ?_ <;> refine xL 58 q_add ?_ <;> refine xL 5 q_assign ?_ <;> refine aL_end (nav ?_) <;> try dsimp only)
                (refine aC_region ?_ <;> refine xL 36 q_move ?_ <;> refine xL 37 q_add ?_ <;> refine xL 7 q_assign ?_ <;> refine aL_end (nav ?_) <;> try dsimp only)
                try rw [hset]
                first
                 | (exact aN_again (
                     ⟨(j' + 1 + 1, K + 1, L.set K u), by dsimp only; omega, by dsimp only; omega, hlen2, by dsimp only; rw [List.length_set]; exact hLl, htk2, by dsimp only; omega, fun i hi => by dsimp only at hi ⊢; rw [List.getElem?_set_ne (by omega)]; exact hLr i (by omega)⟩
                     ) (by dsimp only; omega) ⟨rfl, rfl, rfl, rfl, rfl, trivial⟩ ⟨rfl, trivial⟩)
                 | (exact aN_again (
                     ⟨(j' + 1 + 1, K, L), by dsimp only; omega, by dsimp only; omega, hK.trans (by rw [show k + 1 + (j' + 1 + 1) = k + 1 + j' + 1 + 1 by omega, hsm2]), hLl, hLt.trans (by rw [show k + 1 + (j' + 1 + 1) = k + 1 + j' + 1 + 1 by omega, hsm2]), by dsimp only; omega, fun i hi => hLr i (by dsimp only at hi; omega)⟩
                     ) (by dsimp only; omega) ⟨rfl, rfl, rfl, rfl, rfl, trivial⟩ ⟨rfl, trivial⟩))
             · first
               | exact Bool.noConfusion hb49
               | (
                have hsm2 := cpt_same hs hv2 hu (by simpa using hb49)
                refine nav ?_
                (refine aC_region ?_ <;> refine xL 36 q_move ?_ <;> refine xL 37 q_add ?_ <;> refine xL 7 q_assign ?_ <;> refine aL_end (nav ?_) <;> try dsimp only)
                try rw [hset]
                first
                 | (exact aN_again (
                     ⟨(j' + 1 + 1, K + 1, L.set K u), by dsimp only; omega, by dsimp only; omega, hlen2, by dsimp only; rw [List.length_set]; exact hLl, htk2, by dsimp only; omega, fun i hi => by dsimp only at hi ⊢; rw [List.getElem?_set_ne (by omega)]; exact hLr i (by omega)⟩
                     ) (by dsimp only; omega) ⟨rfl, rfl, rfl, rfl, rfl, trivial⟩ ⟨rfl, trivial⟩)
                 | (exact aN_again (
                     ⟨(j' + 1 + 1, K, L), by dsimp only; omega, by dsimp only; omega, hK.trans (by rw [show k + 1 + (j' + 1 + 1) = k + 1 + j' + 1 + 1 by omega, hsm2]), hLl, hLt.trans (by rw [show k + 1 + (j' + 1 + 1) = k + 1 + j' + 1 + 1 by omega, hsm2]), by dsimp only; omega, fun i hi => hLr i (by dsimp only at hi; omega)⟩
                     ) (by dsimp only; omega) ⟨rfl, rfl, rfl, rfl, rfl, trivial⟩ ⟨rfl, trivial⟩)))
          · first
            | exact Bool.noConfusion hb35
            | (
             have hall : l.take (k + 1 + j' + 1) = l := List.take_of_length_le (by omega)
             rw [hall] at hK hLt
             have hKl : K ≤ l.length := by omega
             refine nav ?_
             (refine aC_region ?_ <;> refine xL 59 q_move ?_ <;> refine xL 60 q_move ?_ <;> refine xL 61 (y_slc_own (i := K) (j := l.length) 1000 tSl22_PtG rfl rfl rfl rfl rfl hKl (Nat.le_refl _)) ?_ <;> (refine aL_clear 1000 tEl22_PtG (by decide) rfl rfl rfl rfl rfl hKl ?_; intro cs2 hcs1 hcs2) <;> refine aL_end (nav ?_) <;> try dsimp only)
             (refine aC_region ?_ <;> refine xL 62 q_move ?_ <;> refine xL 63 q_move ?_ <;> refine xL 64 (y_slc_own (i := 0) (j := K) 1000 tSl22_PtG rfl rfl rfl rfl rfl (Nat.zero_le _) hKl) ?_ <;> refine xL 4 q_assign ?_ <;> refine aL_end (nav ?_) <;> try dsimp only)
             refine aR_ent (trim (l := 1000) K rfl hKl) fun _ => ?_
             refine ret_h [(1000, slc hv 0 K 3, PV.own 24 3 K (cs2.take (K * 3)))] (Tryz.results97) rfl ⟨rfl, trivial⟩ ⟨slc_one hvo _ _ _, rfl, ?_⟩
             rw [hcs2, ← hLt, cTrs_eq, flat_takeP cN_len, ← cTrs_eq]
             rw [show (L.take K).length = K by rw [List.length_take]; omega]))
       · first
         | exact Bool.noConfusion hb28
         | (
          have hnw := cpt_new hs hy hx (by unfold sameT; simpa using hb28)
          rw [hmk, ← take_snoc hx] at hnw
          refine nav ?_
          (refine aC_region ?_ <;> refine xL 16 q_move ?_ <;> refine xL 17 q_add ?_ <;> refine xL 5 q_assign ?_ <;> refine aL_end (nav ?_) <;> try dsimp only)
          refine aN_again (
           ⟨k + 1 + 1, by omega, by omega, hnw⟩
           ) (by dsimp only; omega) ⟨rfl, rfl, rfl, trivial⟩ ⟨rfl, trivial⟩))
    · first
      | exact Bool.noConfusion hb15
      | (
       refine nav ?_
       (refine aC_region ?_ <;> refine xL 65 q_move ?_ <;> refine xL 4 q_assign ?_ <;> refine aL_end (nav ?_) <;> try dsimp only)
       refine ret_h [(1000, hv, PV.own 24 3 l.length (cTrs l))] (Tryz.results97) rfl ⟨rfl, trivial⟩ ⟨hvo, rfl, ?_⟩
       rw [List.take_of_length_le (show l.length ≤ k + 1 by omega)] at hmk
       rw [hmk]))
theorem tAgg24_PtH : AggT Tryz.prog 24 3 = true := by kernel_rfl
theorem tEl22_PtH : ElT Tryz.prog 22 24 3 48 (.agg #[(.int .i64 0), (.string ByteArray.empty), (.slice none 0 0)]) := ⟨Tryz.underlying22, by kernel_rfl, rfl, by decide⟩
theorem tFl24_0_PtH : FldT Tryz.prog 24 0 0 = true := by kernel_rfl
theorem tFl24_2_PtH : FldT Tryz.prog 24 2 2 = true := by kernel_rfl
theorem tNa22_PtH : NoAgg Tryz.prog 22 = true := by kernel_rfl
theorem tNa3_PtH : NoAgg Tryz.prog 3 = true := by kernel_rfl
theorem tSl22_PtH : SlT Tryz.prog 22 24 3 = true := by kernel_rfl
theorem tSt24_PtH : stInfo Tryz.prog 24 = some ((.agg #[(.int .i64 0), (.string ByteArray.empty), (.slice none 0 0)]), ([0, 1, 2] : List Nat).map fun o => (o, 1)) := by kernel_rfl
theorem tZr24_PtH : ZeroT Tryz.prog 24 (.agg #[(.int .i64 0), (.string ByteArray.empty), (.slice none 0 0)]) := by unfold ZeroT; kernel_rfl
theorem szT_eq (t : Nd) : szT t = 1 + szL t.l := by cases t; rw [szT]; rfl
theorem szL_perm {l m : List Nd} (h : l.Perm m) : szL l = szL m := by
 induction h with
 | nil => rfl
 | cons x _ ih => rw [szL, szL, ih]
 | swap x y l => simp only [szL]; omega
 | trans _ _ h1 h2 => exact h1.trans h2
theorem szL_cpt : ∀ l : List Nd, szL (cptT l) ≤ szL l
 | [] => Nat.le_refl _
 | [x] => Nat.le_refl _
 | x :: y :: m => by
   have := szL_cpt (y :: m)
   rw [cptT]
   split
   · rw [szL]; omega
   · rw [szL, szL]; omega
theorem szL_prt (op : Int) (l : List Nd) : szL (prtT op l) ≤ szL l := by
 induction l with
 | nil => exact Nat.le_refl _
 | cons x l ih =>
   unfold prtT at ih ⊢
   rw [List.flatMap_cons, szL_append, szL]
   have : szL (if x.op = op then x.l else if x.op ≠ 2 ∨ op = 4 then [x] else []) ≤ szT x := by
    split
    · rw [szT_eq]; omega
    · split
      · simp [szL]
      · simp [szL]
   omega
theorem len_szL (l : List Nd) : l.length ≤ szL l := by
 induction l with
 | nil => exact Nat.le_refl _
 | cons x l ih => have := szT_pos x; rw [szL, List.length_cons]; omega
theorem szL_ord (op : Int) (p : List Nd) : szL (ordT op p) ≤ szL p := by
 unfold ordT
 split
 · exact Nat.le_refl _
 · split
   · exact Nat.le_trans (szL_cpt _) (Nat.le_of_eq (szL_perm (srtT_perm p)))
   · exact Nat.le_of_eq (szL_perm (srtT_perm p))
theorem sz_end (op : Int) : ∀ p : List Nd, szT (endT op p) ≤ 1 + szL p
 | [] => by rw [endT]; exact Nat.le_refl _
 | [x] => by rw [endT, szL]; omega
 | x :: y :: l => by rw [endT, szT]; exact Nat.le_refl _
theorem sz_join (op : Int) (l : List Nd) : szT (joinT op l) ≤ 1 + szL l := by
 unfold joinT
 have h1 := sz_end op (ordT op (prtT op l))
 have h2 := szL_ord op (prtT op l)
 have h3 := szL_prt op l
 omega
theorem sz_lop2 (f s : Nd) : szT (lop2 f s).1 + szT (lop2 f s).2 ≤ szT f + szT s := by
 unfold lop2
 split
 · split
   · rename_i a b r hl
     have h1 := sz_join 4 [b, s]
     have h2 := szT_eq f
     rw [hl] at h2
     simp only [szL] at h1 h2 ⊢
     omega
   · exact Nat.le_refl _
 · exact Nat.le_refl _
theorem sz_lop (l : List Nd) : szT (lopT l) ≤ 1 + szL l := by
 match l with
 | [] => exact Nat.le_add_right 1 _
 | [x] => exact Nat.le_add_right 1 _
 | f :: s :: r =>
   have h := sz_lop2 f s
   rw [lopT, lopE]
   split
   · exact Nat.le_add_right 1 _
   · rw [szT]; simp only [szL]; omega
theorem sz_nod (o : Int) (a : ByteArray) (l : List Nd) : szT (nodT o a l) ≤ 1 + szL l := by
 unfold nodT
 split
 · rw [szT, szL]; omega
 · split
   · exact sz_lop l
   · exact sz_join o l
theorem sz_nor : ∀ t : Nd, szT (norT t) ≤ szT t := Nd.ind fun o a l ih => by
 rw [norT, szT]
 have h1 := sz_nod o a (norL l)
 have h2 : szL (norL l) ≤ szL l := by
  clear h1
  induction l with
  | nil => exact Nat.le_refl _
  | cons x l ih2 =>
    rw [norL, szL, szL]
    have h3 := ih x (List.mem_cons_self ..)
    have h4 := ih2 fun y hy => ih y (List.mem_cons_of_mem _ hy)
    omega
 omega
theorem isName_sz {s : ByteArray} (h : isName s = true) : s.size ≤ 40 := by
 rcases Nat.lt_or_ge 40 s.size with h1 | h1
 · rw [isName_short (.inr h1)] at h; cases h
 · exact h1
theorem right_sz {t : Nd} (h : rightT t = true) : t.act.size ≤ 40 := by
 unfold rightT at h
 split at h
 · simp only [Bool.and_eq_true] at h; exact isName_sz h.2
 · split at h
   · simp only [Bool.and_eq_true, decide_eq_true_eq] at h; rw [h.2]; decide
   · split at h
     · simp only [Bool.and_eq_true, decide_eq_true_eq] at h; rw [h.2]; decide
     · split at h
       · simp only [Bool.and_eq_true, decide_eq_true_eq] at h; rw [h.2]; decide
       · cases h
theorem fit_ok : ∀ t : Nd, okT t = true → szT t ≤ 1000000 → FitT t := Nd.ind fun o a l ih hok hs => by
 obtain ⟨h1, h2⟩ := okT_iff.1 hok
 have h3 := szT_eq (.mk o a l)
 have h4 := len_szL l
 have h5 := right_sz h1
 have h6 := right_ops h1
 simp only [Nd.l, Nd.act, Nd.op] at h3 h5 h6 h2
 refine .mk _ (by show l.length ≤ _; omega) (by show a.size ≤ _; omega) (by show _ ≤ o; omega) (by show o ≤ _; omega) fun x hx => ?_
 have h7 := szL_mem (show x ∈ l from hx)
 exact ih x hx (h2 x hx) (by omega)
theorem nor_ok {t : Nd} (h : okT t = true) : okT (norT t) = true := (nor_nf t h).ok
theorem fit_nor {t : Nd} (h : okT t = true) (hs : szT t ≤ 1000000) : FitT (norT t) := fit_ok _ (nor_ok h) (Nat.le_trans (sz_nor t) hs)
theorem prt_snoc (op : Int) {l : List Nd} {k : Nat} {x : Nd} (h : l[k]? = some x) : prtT op (l.take (k + 1)) = prtT op (l.take k) ++ (if x.op = op then x.l else if x.op ≠ 2 ∨ op = 4 then [x] else []) := by
 unfold prtT
 rw [take_snoc h, List.flatMap_append, List.flatMap_singleton]
theorem prt_from {op : Int} {l : List Nd} {y : Nd} (h : y ∈ prtT op l) : ∃ x ∈ l, y = x ∨ y ∈ x.l := by
 unfold prtT at h
 obtain ⟨x, hx, hy⟩ := List.mem_flatMap.1 h
 split at hy
 · exact ⟨x, hx, .inr hy⟩
 · split at hy
   · exact ⟨x, hx, .inl (List.mem_singleton.1 hy)⟩
   · cases hy
theorem fit_prt {op : Int} {l : List Nd} (h : ∀ x ∈ l, FitT x) : ∀ y ∈ prtT op l, FitT y := fun y hy => by
 obtain ⟨x, hx, h1 | h1⟩ := prt_from hy
 · rw [h1]; exact h x hx
 · exact (h x hx).p y h1
theorem prt_len_take (op : Int) (l : List Nd) (k : Nat) : (prtT op (l.take k)).length ≤ szL l := by
 have h1 := len_szL (prtT op (l.take k))
 have h2 := szL_prt op (l.take k)
 have h3 : szL (l.take k) ≤ szL l := by
  conv => rhs; rw [← List.take_append_drop k l]
  rw [szL_append]; omega
 omega
theorem cTrs_one_all (l : List Nd) : (cTrs l).all En.one = true := by
 rw [cTrs_eq, List.all_eq_true]
 intro p hp
 obtain ⟨x, _, hx⟩ := List.mem_flatMap.1 hp
 rcases List.mem_cons.1 hx with h | hx
 · subst h; rfl
 · rcases List.mem_cons.1 hx with h | hx
   · subst h; rfl
   · rcases List.mem_cons.1 hx with h | hx
     · subst h; rfl
     · cases hx
theorem cTrs_snoc (l : List Nd) (x : Nd) : cTrs l ++ cN x = cTrs (l ++ [x]) := by
 rw [cTrs_eq, cTrs_eq, List.flatMap_append, List.flatMap_singleton]
theorem cTrs_app (l m : List Nd) : cTrs l ++ cTrs m = cTrs (l ++ m) := by
 rw [cTrs_eq, cTrs_eq, cTrs_eq, List.flatMap_append]
theorem rr_sil : Rr (.agg [.val (.int .i64 2), .val (.string ByteArray.empty), .val (.slice none 0 0)]) (pTr silT) := Rr.agg rfl fun i a b ha hb => by
 match i with
 | 0 => cases ha; cases hb; exact Rr.rfl' _
 | 1 => cases ha; cases hb; exact Rr.rfl' _
 | 2 => cases ha; cases hb; exact Rr.nil
 | i + 3 => simp at ha
theorem share_trs (e n : Nat) (l : List Nd) (hn : n = l.length) : share (.own e 3 n (cTrs l)) = pTrs l := by
 subst hn
 rw [share, shares_eq, cTrs_eq, List.map_flatMap]
 unfold pTrs
 rw [cTrs_eq]; rfl
def sS (op : Int) (p : List Nd) : List Nd := if op = 3 then p else srtT p
theorem sS_len (op : Int) (p : List Nd) : (sS op p).length = p.length := by
 unfold sS; split
 · rfl
 · exact (srtT_perm p).length_eq
theorem sS_ord {op : Int} {p : List Nd} (h : op ≠ 4) : sS op p = ordT op p := by
 unfold sS ordT
 by_cases h3 : op = 3
 · rw [if_pos h3, if_pos h3]
 · rw [if_neg h3, if_neg h3, if_neg h]
theorem sS_mem {op : Int} {p : List Nd} {x : Nd} : x ∈ sS op p → x ∈ p := by
 unfold sS; split
 · exact id
 · exact (srtT_perm p).mem_iff.1
set_option maxHeartbeats 4000000 in
theorem tJoin_e (op : Int) (l : List Nd) (h1 : -9223372036854775808 ≤ op) (h2 : op ≤ 9223372036854775807) (hF : ∀ x ∈ l, FitT x) (hn : szL l ≤ 1000000) : AF Tryz.prog 66 [pInt op, pTrs l] (· = pTr (joinT op l)) := by
 have hll : l.length ≤ 1000000 := Nat.le_trans (len_szL l) hn
 refine AF.of_body 57 Tryz.func66 rfl Tryz.ntmps66 (Nat.le_of_ble_eq_true rfl) ?_
 intro w0 M0 vs hl hv
 obtain ⟨v0, v1, rfl⟩ := len2 hl
 obtain rfl := hv 0 _ _ rfl rfl
 clear hl hv
 refine nav ?_
 (refine aC_region ?_ <;> refine s_alloc [(.int .i64 0), (.string ByteArray.empty), (.slice none 0 0)] 3 4 tZr24_PtH fun h4 => ?_ <;> refine aL_end (nav ?_) <;> try dsimp only)
 (refine aC_region ?_ <;> refine xL 5 q_assign ?_ <;> refine aL_end (nav ?_) <;> try dsimp only)
 refine aC_ent (nilOwn 1000 24 3 rfl) fun _ => ?_
 (refine aC_region ?_ <;> refine xL 8 q_move ?_ <;> refine xL 9 (q_len tSl22_PtH) ?_ <;> refine xL 10 q_move ?_ <;> refine aL_end (nav ?_) <;> try dsimp only)
 refine aC_loop (ι := { q : Nat × Value // q.1 ≤ l.length ∧ q.2.oneCell' = true }) (fun k => ⟨[(0, _, _), (4, _, _), (8, _, _), (9, _, _), (5, k.1.2, .val k.1.2), (10, .int .i64 k.1.1, pInt k.1.1)], [(4, _, _), (1000, k.1.2, .own 24 3 (prtT op (l.take k.1.1)).length (cTrs (prtT op (l.take k.1.1))))]⟩) (fun k => l.length - k.1.1) ⟨(0, .slice none 0 0), Nat.zero_le _, rfl⟩ (fun a w H => H.weaken ⟨rfl, rfl, rfl, rfl, rfl, rfl, trivial⟩ ⟨rfl, rfl, trivial⟩) ?_
 rintro ⟨⟨k, hO⟩, hk, hOo⟩
 dsimp only
 dsimp only at hk hOo
 have hpl := prt_len_take op l k
 have hpl2 := prt_len_take op l (k + 1)
 refine nav ?_
 (refine aC_region ?_ <;> refine xL 11 q_lss ?_ <;> refine aL_end (nav ?_) <;> try dsimp only)
 (first | refine cCd ?_ ?_ | refine cC ?_ ?_) <;> intro hb11
 · first
   | exact Bool.noConfusion hb11
   | (
    obtain ⟨x, hx⟩ := get_some (show k < l.length by omega)
    have e1 : ((cTrs l).drop (k * 3)).take 3 = [pInt x.op, pStr x.act, pTrs x.l] := tr_drop hx
    have e2 := tr_fit hx
    have hsn := prt_snoc op hx
    have hxf := hF x (List.mem_of_getElem? hx)
    have f1 : (cTrs x.l).length = x.l.length * 3 := cTrs_len _
    have f2 := cTrs_one_all x.l
    refine nav ?_
    (refine aC_region ?_ <;> refine xL 12 (q_idxN tSl22_PtH) ?_ <;> (refine yL 13 (q_lda tAgg24_PtH) fun v13 hv13 => ?_; cases hv13) <;> refine s_alloc [(.int .i64 0), (.string ByteArray.empty), (.slice none 0 0)] 3 7 tZr24_PtH fun h7 => ?_ <;> refine s_sta 7 tAgg24_PtH ?_ <;> refine aL_end (nav ?_) <;> try dsimp only)
    (refine aC_region ?_ <;> refine xL 15 (q_fldo 7 tFl24_0_PtH) ?_ <;> (refine yL 16 (q_ldo 7 tNa3_PtH) fun v16 hv16 => ?_; cases hv16) <;> refine xL 17 q_move ?_ <;> refine xL 18 q_eql ?_ <;> refine xL 14 q_assign ?_ <;> refine aL_end (nav ?_) <;> try dsimp only)
    (first | refine cCd ?_ ?_ | refine cC ?_ ?_) <;> intro hb14
    · first
      | exact Bool.noConfusion hb14
      | (
       rw [if_pos hb14] at hsn
       have hsl : (prtT op (l.take (k + 1))).length = (prtT op (l.take k)).length + x.l.length := by rw [hsn, List.length_append]
       refine nav ?_
       (refine aC_region ?_ <;> refine xL 19 q_move ?_ <;> refine xL 20 (q_fldo 7 tFl24_2_PtH) ?_ <;> (refine yL 21 (q_ldo 7 tNa22_PtH) fun v21 hv21 => ?_; cases hv21) <;> (refine s_apps 1000 22 tEl22_PtH (fun h22 ho22 => ?_) f1 f2; refine aL_ent (relabel (l := 22) 1000 rfl rfl) fun _ => ?_; refine aL_ent (recast (l := 1000) (p' := .own 24 3 (prtT op (l.take (k + 1))).length (cTrs (prtT op (l.take (k + 1))))) rfl (by rw [cTrs_app, ← hsn, hsl])) fun _ => ?_) <;> refine xL 5 q_assign ?_ <;> refine aL_end (nav ?_) <;> try dsimp only)
       (refine aC_region ?_ <;> refine xL 35 q_add ?_ <;> refine xL 10 q_move ?_ <;> refine aL_end (nav ?_) <;> try dsimp only)
       first
        | (exact aN_again (
            ⟨(k + 1, h22), lt_of_get hx, ho22⟩
            ) (by dsimp only; omega) ⟨rfl, rfl, rfl, rfl, rfl, rfl, trivial⟩ ⟨rfl, rfl, trivial⟩)
        | (exact aN_again (
            ⟨(k + 1, h34), lt_of_get hx, ho34⟩
            ) (by dsimp only; omega) ⟨rfl, rfl, rfl, rfl, rfl, rfl, trivial⟩ ⟨rfl, rfl, trivial⟩)
        | (exact aN_again (
            ⟨(k + 1, hO), lt_of_get hx, hOo⟩
            ) (by dsimp only; omega) ⟨rfl, rfl, rfl, rfl, rfl, rfl, trivial⟩ ⟨rfl, rfl, trivial⟩))
    · first
      | exact Bool.noConfusion hb14
      | (
       rw [if_neg hb14] at hsn
       refine nav ?_
       (refine aC_region ?_ <;> refine xL 24 (q_fldo 7 tFl24_0_PtH) ?_ <;> (refine yL 25 (q_ldo 7 tNa3_PtH) fun v25 hv25 => ?_; cases hv25) <;> refine xL 26 q_neq ?_ <;> refine xL 27 q_move ?_ <;> (refine bLd 27 (fun hb27 => ?_) (fun hb27 => ?_) <;> (first | refine kL 28 ?_ | refine xL 28 q_move ?_)) <;> (first | refine kL 29 ?_ | refine xL 29 q_eql ?_) <;> refine xL 30 q_pick ?_ <;> refine xL 23 q_assign ?_ <;> refine aL_end (nav ?_) <;> try dsimp only) <;> (
        (first | refine cCd ?_ ?_ | refine cC ?_ ?_) <;> intro hb23
        · first
          | exact Bool.noConfusion hb23
          | (
           rw [if_pos (by omega)] at hsn
           have hsl : (prtT op (l.take (k + 1))).length = (prtT op (l.take k)).length + 1 := by rw [hsn, List.length_append]; rfl
           refine nav ?_
           (refine aC_region ?_ <;> refine xL 31 q_move ?_ <;> (refine yL 32 (q_ldao 7 tAgg24_PtH) fun v32 hv32 => ?_; cases hv32) <;> refine s_lit1a 33 tEl22_PtH fun h33 ho33 => ?_ <;> (refine s_app 1000 33 34 tEl22_PtH fun h34 ho34 => ?_; refine aL_ent (relabel (l := 34) 1000 rfl rfl) fun _ => ?_; refine aL_ent (recast (l := 1000) (p' := .own 24 3 (prtT op (l.take (k + 1))).length (cTrs (prtT op (l.take (k + 1))))) rfl (Eq.trans (congrArg (PV.own 24 3 _) (show _ = cTrs (prtT op (l.take k)) ++ cN x from rfl)) (by rw [cTrs_snoc, ← hsn, hsl]))) fun _ => ?_) <;> refine xL 5 q_assign ?_ <;> refine aL_end (nav ?_) <;> try dsimp only)
           (refine aC_region ?_ <;> refine xL 35 q_add ?_ <;> refine xL 10 q_move ?_ <;> refine aL_end (nav ?_) <;> try dsimp only)
           first
            | (exact aN_again (
                ⟨(k + 1, h22), lt_of_get hx, ho22⟩
                ) (by dsimp only; omega) ⟨rfl, rfl, rfl, rfl, rfl, rfl, trivial⟩ ⟨rfl, rfl, trivial⟩)
            | (exact aN_again (
                ⟨(k + 1, h34), lt_of_get hx, ho34⟩
                ) (by dsimp only; omega) ⟨rfl, rfl, rfl, rfl, rfl, rfl, trivial⟩ ⟨rfl, rfl, trivial⟩)
            | (exact aN_again (
                ⟨(k + 1, hO), lt_of_get hx, hOo⟩
                ) (by dsimp only; omega) ⟨rfl, rfl, rfl, rfl, rfl, rfl, trivial⟩ ⟨rfl, rfl, trivial⟩))
        · first
          | exact Bool.noConfusion hb23
          | (
           rw [if_neg (by omega), List.append_nil] at hsn
           refine aC_ent (recast (l := 1000) (p' := .own 24 3 (prtT op (l.take (k + 1))).length (cTrs (prtT op (l.take (k + 1))))) rfl (by rw [hsn])) fun _ => ?_
           refine nav ?_
           (refine aC_region ?_ <;> refine xL 35 q_add ?_ <;> refine xL 10 q_move ?_ <;> refine aL_end (nav ?_) <;> try dsimp only)
           first
            | (exact aN_again (
                ⟨(k + 1, h22), lt_of_get hx, ho22⟩
                ) (by dsimp only; omega) ⟨rfl, rfl, rfl, rfl, rfl, rfl, trivial⟩ ⟨rfl, rfl, trivial⟩)
            | (exact aN_again (
                ⟨(k + 1, h34), lt_of_get hx, ho34⟩
                ) (by dsimp only; omega) ⟨rfl, rfl, rfl, rfl, rfl, rfl, trivial⟩ ⟨rfl, rfl, trivial⟩)
            | (exact aN_again (
                ⟨(k + 1, hO), lt_of_get hx, hOo⟩
                ) (by dsimp only; omega) ⟨rfl, rfl, rfl, rfl, rfl, rfl, trivial⟩ ⟨rfl, rfl, trivial⟩)))))
 · first
   | exact Bool.noConfusion hb11
   | (
    rw [List.take_of_length_le (show l.length ≤ k by omega)]
    rw [List.take_of_length_le (show l.length ≤ k by omega)] at hpl
    have hFp := fit_prt (op := op) hF
    refine nav ?_
    (refine aC_region ?_ <;> refine xL 36 q_move ?_ <;> refine xL 37 q_neq ?_ <;> refine aL_end (nav ?_) <;> try dsimp only)
    refine aC_mid (fun h4 : Value => ⟨[(0, .int .i64 op, pInt op), (4, padd (sbase h4) 0, .val (padd (sbase h4) 0)), (5, hO, .val hO)], [(1000, hO, .own 24 3 (sS op (prtT op l)).length (cTrs (sS op (prtT op l)))), (4, h4, .own 24 3 1 [.val (.int .i64 0), .val (.string ByteArray.empty), .val (.slice none 0 0)])]⟩) ?_ ?_
    · (first | refine cCd ?_ ?_ | refine cC ?_ ?_) <;> intro hb37
      · first
        | exact Bool.noConfusion hb37
        | (
         refine nav ?_
         (refine aC_region ?_ <;> refine xL 38 q_move ?_ <;> (refine aL_heap [(1000, hO, PV.own 24 3 (prtT op l).length (cTrs (prtT op l))), (4, _, _)] ⟨rfl, rfl, trivial⟩ ?_; refine aL_ch [4] 39 (Tryz.call96) (tSortSt_e 47 (Tryz.call47) hO (.func (.func 47) #[] #[]) (prtT op l) (by omega) (fun x hx y hy => tCmp_e x y (hFp x hx) (hFp y hy))) (fun v39 p39 h39 hR39 => ?_); subst hR39; dsimp only [rowT]; refine aL_ent (recast (l := 1000) (p' := .own 24 3 (sS op (prtT op l)).length (cTrs (sS op (prtT op l)))) rfl (by unfold sS; rw [if_neg hb37])) fun _ => ?_) <;> refine aL_end (nav ?_) <;> try dsimp only)
         exact aN_join _ ⟨rfl, rfl, rfl, trivial⟩ ⟨rfl, rfl, trivial⟩)
      · first
        | exact Bool.noConfusion hb37
        | (
         refine aC_ent (recast (l := 1000) (p' := .own 24 3 (sS op (prtT op l)).length (cTrs (sS op (prtT op l)))) rfl (by unfold sS; rw [if_pos (by omega)])) fun _ => ?_
         refine nav ?_
         exact aN_join _ ⟨rfl, rfl, rfl, trivial⟩ ⟨rfl, rfl, trivial⟩)
    · rintro h4
      have hsl := sS_len op (prtT op l)
      refine nav ?_
      (refine aC_region ?_ <;> refine xL 40 q_move ?_ <;> refine xL 41 q_eql ?_ <;> refine aL_end (nav ?_) <;> try dsimp only)
      refine aC_mid (fun q : Value × { h : Value // h.oneCell' = true } => ⟨[(0, .int .i64 op, pInt op), (4, padd (sbase q.1) 0, .val (padd (sbase q.1) 0)), (5, q.2.1, .val q.2.1)], [(1000, q.2.1, .own 24 3 (ordT op (prtT op l)).length (cTrs (ordT op (prtT op l)))), (4, q.1, .own 24 3 1 [.val (.int .i64 0), .val (.string ByteArray.empty), .val (.slice none 0 0)])]⟩) ?_ ?_
      · (first | refine cCd ?_ ?_ | refine cC ?_ ?_) <;> intro hb41
        · first
          | exact Bool.noConfusion hb41
          | (
           have hasc : AscT (sS op (prtT op l)) := by unfold sS; rw [if_neg (by omega)]; exact srtT_asc _
           have hord : cptT (sS op (prtT op l)) = ordT op (prtT op l) := by unfold sS ordT; rw [if_neg (by omega), if_neg (by omega), if_pos (by omega)]
           refine nav ?_
           (refine aC_region ?_ <;> refine xL 42 q_move ?_ <;> (refine aL_heap [(1000, hO, PV.own 24 3 (sS op (prtT op l)).length (cTrs (sS op (prtT op l)))), (4, _, _)] ⟨rfl, rfl, trivial⟩ ?_; refine aL_ch [4] 43 (Tryz.call97) (tCompactFn_e 25 (Tryz.call25) (.func (.func 25) #[] #[]) (sS op (prtT op l)) (by omega) hasc (fun x hx y hy => tSame_e x y (hFp x (sS_mem hx)) (hFp y (sS_mem hy))) hO hOo) ?_; rintro v43 _ _ ⟨hv43, rfl, rfl⟩; refine aL_ent (recast (l := 1000) (p' := .own 24 3 (ordT op (prtT op l)).length (cTrs (ordT op (prtT op l)))) rfl (by rw [hord])) fun _ => ?_) <;> refine xL 5 q_assign ?_ <;> refine aL_end (nav ?_) <;> try dsimp only)
           first
           | exact aN_join (h4, ⟨v43, hv43⟩) ⟨rfl, rfl, rfl, trivial⟩ ⟨rfl, rfl, trivial⟩
           | exact aN_join (h4, ⟨hO, hOo⟩) ⟨rfl, rfl, rfl, trivial⟩ ⟨rfl, rfl, trivial⟩)
        · first
          | exact Bool.noConfusion hb41
          | (
           refine aC_ent (recast (l := 1000) (p' := .own 24 3 (ordT op (prtT op l)).length (cTrs (ordT op (prtT op l)))) rfl (by rw [sS_ord (by omega)])) fun _ => ?_
           refine nav ?_
           first
           | exact aN_join (h4, ⟨v43, hv43⟩) ⟨rfl, rfl, rfl, trivial⟩ ⟨rfl, rfl, trivial⟩
           | exact aN_join (h4, ⟨hO, hOo⟩) ⟨rfl, rfl, rfl, trivial⟩ ⟨rfl, rfl, trivial⟩)
      · rintro ⟨h4, hP, hPo⟩
        dsimp only
        have hol : (ordT op (prtT op l)).length ≤ 1000000 := Nat.le_trans (len_szL _) (Nat.le_trans (szL_ord _ _) (Nat.le_trans (szL_prt _ _) hn))
        unfold joinT
        generalize ordT op (prtT op l) = p at hol ⊢
        refine nav ?_
        (refine aC_region ?_ <;> refine xL 44 q_move ?_ <;> refine xL 45 (q_leno 1000 tSl22_PtH) ?_ <;> refine aL_end (nav ?_) <;> try dsimp only)
        (refine aC_region ?_ <;> refine xL 47 q_eql ?_ <;> refine xL 46 q_assign ?_ <;> refine aL_end (nav ?_) <;> try dsimp only)
        (first | refine cCd ?_ ?_ | refine cC ?_ ?_) <;> intro hb46
        · first
          | exact Bool.noConfusion hb46
          | (
           obtain rfl : p = [] := List.eq_nil_of_length_eq_zero (by omega)
           refine nav ?_
           (refine aC_region ?_ <;> refine xL 48 (q_build tSt24_PtH) ?_ <;> (refine aL_ent (rslot (t := 48) (p' := pTr silT) rfl rr_sil) fun _ => ?_; refine s_sta 4 tAgg24_PtH ?_) <;> refine aL_end (nav ?_) <;> try dsimp only)
           exact ret_cell (k := 3) 4 (by kernel_rfl) (Tryz.results66) rfl rfl (Nat.le_of_ble_eq_true rfl) (by decide) rfl rfl)
        · first
          | exact Bool.noConfusion hb46
          | (
           refine nav ?_
           (refine aC_region ?_ <;> refine xL 50 q_eql ?_ <;> refine xL 49 q_assign ?_ <;> refine aL_end (nav ?_) <;> try dsimp only)
           (first | refine cCd ?_ ?_ | refine cC ?_ ?_) <;> intro hb49
           · first
             | exact Bool.noConfusion hb49
             | (
              obtain ⟨x, rfl⟩ : ∃ x, p = [x] := by
               match p, hb49 with
               | [], h => simp at h
               | [x], _ => exact ⟨x, rfl⟩
               | _ :: _ :: _, h => simp at h; omega
              have e1 : ((cTrs [x]).drop (0 * 3)).take 3 = cN x := tr_drop (k := 0) rfl
              have e2 : 0 * 3 + 3 ≤ (cTrs [x]).length := tr_fit (k := 0) (x := x) rfl
              refine nav ?_
              (refine aC_region ?_ <;> refine xL 51 q_move ?_ <;> refine xL 52 (q_idxoN 1000 tSl22_PtH) ?_ <;> (refine yL 53 (q_ldao 1000 tAgg24_PtH) fun v53 hv53 => ?_; cases hv53) <;> refine s_sta 4 tAgg24_PtH ?_ <;> refine aL_end (nav ?_) <;> try dsimp only)
              exact ret_cell (k := 3) 4 (by kernel_rfl) (Tryz.results66) rfl rfl (Nat.le_of_ble_eq_true rfl) (by decide) rfl rfl)
           · first
             | exact Bool.noConfusion hb49
             | (
              refine nav ?_
              refine aC_ent (En.freeze (l := 1000) (t := 5) rfl rfl) fun _ => ?_
              rw [share_trs _ _ _ rfl]
              (refine aC_region ?_ <;> refine xL 54 q_move ?_ <;> refine xL 55 q_move ?_ <;> refine xL 56 (q_build tSt24_PtH) ?_ <;> refine s_sta 4 tAgg24_PtH ?_ <;> refine aL_end (nav ?_) <;> try dsimp only)
              refine ret_cell (k := 3) 4 (by kernel_rfl) (Tryz.results66) rfl rfl (Nat.le_of_ble_eq_true rfl) (by decide) rfl ?_
              match p, hb46, hb49 with
              | [], h, _ => simp at h
              | [x], _, h => simp at h
              | x :: y :: r, _, _ => rfl)))
def wordT (op : Int) : ByteArray := if op = 3 then ⟨#[115, 101, 113]⟩ else if op = 4 then ⟨#[120, 111, 114]⟩ else if op = 5 then ⟨#[97, 110, 100]⟩ else ⟨#[108, 111, 111, 112]⟩
theorem wordT_len (op : Int) : (wordT op).data.toList.length ≤ 4 := by
 unfold wordT
 split
 · decide
 · split
   · decide
   · split <;> decide
def comB : List (List UInt8) → List UInt8
 | [] => []
 | [x] => x
 | x :: y :: m => x ++ [44, 32] ++ comB (y :: m)
theorem comB_snoc (x : List UInt8) : ∀ m : List (List UInt8), comB (m ++ [x]) = comB m ++ (if m = [] then [] else [44, 32]) ++ x
 | [] => by simp [comB]
 | [y] => by simp [comB]
 | y :: z :: m => by
   have := comB_snoc x (z :: m)
   simp only [List.cons_append] at this ⊢
   rw [comB, this, comB]
   simp
mutual
def textT : Nd → List UInt8
 | .mk o a l => if o = 1 then a.data.toList else if o = 2 then [40, 41] else (wordT o).data.toList ++ [40] ++ comB (textL l) ++ [41]
def textL : List Nd → List (List UInt8)
 | [] => []
 | x :: l => textT x :: textL l
end
theorem textL_eq (l : List Nd) : textL l = l.map textT := by
 induction l with
 | nil => rfl
 | cons x l ih => rw [textL, ih]; rfl
theorem comB_len (m : List (List UInt8)) (n : List Nat) (h : m.map List.length = n) : (comB m).length ≤ n.sum + 2 * n.length := by
 subst h
 match m with
 | [] => simp [comB]
 | [x] => simp [comB]
 | x :: y :: m =>
   have := comB_len (y :: m) _ rfl
   rw [comB]
   simp only [List.length_append, List.map_cons, List.sum_cons, List.length_cons, List.length_nil, List.length_map] at this ⊢
   omega
theorem text_len : ∀ t : Nd, okT t = true → (textT t).length + 2 ≤ 50 * szT t := Nd.ind fun o a l ih hok => by
 obtain ⟨hr, hp⟩ := okT_iff.1 hok
 have h40 := right_sz hr
 simp only [Nd.l, Nd.act] at hp h40
 have h1 : (a.data.toList).length = a.size := Array.length_toList
 have h2 : ((textL l).map List.length).sum + 2 * ((textL l).map List.length).length ≤ 50 * szL l := by
  clear hok hr
  induction l with
  | nil => simp [textL]
  | cons x l ih2 =>
    have h3 := ih x (List.mem_cons_self ..) (hp x (List.mem_cons_self ..))
    have h4 := ih2 (fun y hy => ih y (List.mem_cons_of_mem _ hy)) (fun y hy => hp y (List.mem_cons_of_mem _ hy))
    rw [textL, szL]
    simp only [List.map_cons, List.sum_cons, List.length_cons, List.length_map] at h4 ⊢
    omega
 have h3 := comB_len (textL l) _ rfl
 have h4 := wordT_len o
 rw [textT, szT]
 split
 · omega
 · split
   · simp only [List.length_cons, List.length_nil]; omega
   · simp only [List.length_append, List.length_cons, List.length_nil]
     omega
theorem text_ne : ∀ t : Nd, okT t = true → textT t ≠ []
 | .mk o a l, hok => by
   have hr := (okT_iff.1 hok).1
   rw [textT]
   split
   · rename_i h1
     unfold rightT at hr
     rw [if_pos (show Nd.op (.mk o a l) = 1 from h1)] at hr
     simp only [Bool.and_eq_true] at hr
     intro h
     have hs : a.size = 0 := by
      have : a.data.toList.length = 0 := by rw [h]; rfl
      simpa using this
     have := isName_short (s := a) (.inl (by omega))
     rw [show isName a = true from hr.2] at this; cases this
   · split
     · intro h; cases h
     · intro h
       have := congrArg List.length h
       simp at this
theorem textP_snoc {l : List Nd} {k : Nat} {x : Nd} (h : l[k]? = some x) : comB (textL (l.take (k + 1))) = comB (textL (l.take k)) ++ (if k = 0 then [] else [44, 32]) ++ textT x := by
 rw [take_snoc h, textL_eq, List.map_append, List.map_cons, List.map_nil, comB_snoc, ← textL_eq]
 have hk := lt_of_get h
 by_cases h0 : k = 0
 · subst h0; rfl
 · rw [if_neg h0, if_neg]
   intro he
   have := congrArg List.length he
   rw [textL_eq, List.length_map, List.length_take, List.length_nil] at this
   omega
theorem textP_len {l : List Nd} (hp : ∀ x ∈ l, okT x = true) (k : Nat) : (comB (textL (l.take k))).length ≤ 50 * szL (l.take k) ∧ szL (l.take k) ≤ szL l := by
 have h2 : ∀ m : List Nd, (∀ x ∈ m, okT x = true) → ((textL m).map List.length).sum + 2 * ((textL m).map List.length).length ≤ 50 * szL m := fun m => by
  induction m with
  | nil => intro _; simp [textL]
  | cons x m ih2 =>
    intro hm
    have h3 := text_len x (hm x (List.mem_cons_self ..))
    have h4 := ih2 (fun y hy => hm y (List.mem_cons_of_mem _ hy))
    rw [textL, szL]
    simp only [List.map_cons, List.sum_cons, List.length_cons, List.length_map] at h4 ⊢
    omega
 have h3 := comB_len (textL (l.take k)) _ rfl
 have h4 := h2 (l.take k) fun x hx => hp x (List.mem_of_mem_take hx)
 have h5 : szL (l.take k) ≤ szL l := by
  conv => rhs; rw [← List.take_append_drop k l]
  rw [szL_append]; omega
 exact ⟨by omega, h5⟩
theorem szP_len {l : List Nd} {k : Nat} {x : Nd} (h : l[k]? = some x) : szL (l.take k) + szT x ≤ szL l := by
 rw [← szL_snoc h]
 conv => rhs; rw [← List.take_append_drop (k + 1) l]
 rw [szL_append]; omega
theorem tAgg24_PtL : AggT Tryz.prog 24 3 = true := by kernel_rfl
theorem tEl60_PtL : ElT Tryz.prog 60 5 1 1 (.int .u8 0) := ⟨Tryz.underlying60, by kernel_rfl, rfl, by decide⟩
theorem tFl24_0_PtL : FldT Tryz.prog 24 0 0 = true := by kernel_rfl
theorem tFl24_1_PtL : FldT Tryz.prog 24 1 1 = true := by kernel_rfl
theorem tFl24_2_PtL : FldT Tryz.prog 24 2 2 = true := by kernel_rfl
theorem tFl62_0_PtL : FldT Tryz.prog 62 0 0 = true := by kernel_rfl
theorem tFl62_1_PtL : FldT Tryz.prog 62 1 1 = true := by kernel_rfl
theorem tNa22_PtL : NoAgg Tryz.prog 22 = true := by kernel_rfl
theorem tNa3_PtL : NoAgg Tryz.prog 3 = true := by kernel_rfl
theorem tNa59_PtL : NoAgg Tryz.prog 59 = true := by kernel_rfl
theorem tNa60_PtL : NoAgg Tryz.prog 60 = true := by kernel_rfl
theorem tNa9_PtL : NoAgg Tryz.prog 9 = true := by kernel_rfl
theorem tSl22_PtL : SlT Tryz.prog 22 24 3 = true := by kernel_rfl
theorem tSl60_PtL : SlT Tryz.prog 60 5 1 = true := by kernel_rfl
theorem tSz59_PtL : (Tryz.prog.info? 59).map (·.size) = some 1 := by kernel_rfl
theorem tSz60_PtL : (Tryz.prog.info? 60).map (·.size) = some 1 := by kernel_rfl
theorem tZr24_PtL : ZeroT Tryz.prog 24 (.agg #[(.int .i64 0), (.string ByteArray.empty), (.slice none 0 0)]) := by unfold ZeroT; kernel_rfl
theorem tZr62_PtL : ZeroT Tryz.prog 62 (.agg #[(.pointer none), (.slice none 0 0)]) := by unfold ZeroT; kernel_rfl
def ByH (b : Nat) (p v : Value) (bs : List UInt8) : List (Nat × Ent) := [(1000, hdr1 b, .own 62 2 1 [.val p, .val v]), (1001, v, .own 5 1 bs.length (bs.map pByte))]
theorem ret_hss {c : Ctx} {P : Program} {sL hP : List (Nat × Ent)} {fn : Func} {R : Value → PV → List (Nat × Ent) → Prop} {t s : Nat} {v u : Value} {p q : PV} (h : List (Nat × Ent)) (hr : fn.results = #[.tmp t, .tmp s]) (ht : lk sL t = some (v, p)) (hs : lk sL s = some (u, q)) (hsub : Sub h hP) (hR : R (.tuple #[v, u]) (.tup [p, q]) h) (hdf : c.df = [] := by exact rfl) : aR c (bodyPost P fn (RetH c R)) (⟨sL, hP⟩ : St) := fun a w ⟨F, H0⟩ => by
 have H : HoldsF c (⟨sL, h⟩ : St) F a w := H0.less (fun _ _ h => h) fun t x hx => hsub.lk hx
 obtain ⟨h1, h2⟩ := H.sl t v p ht
 obtain ⟨h3, h4⟩ := H.sl s u q hs
 refine ⟨H.df.trans hdf, .tuple #[v, u], ?_, .tuple #[v, u], .tup [p, q], h, F, rfl, hR, H.toHeapF, .tup [v, u] [p, q] rfl fun i x r hx hr => ?_⟩
 · simp [results, hr, Array.getD_eq_getD_getElem?, h1, h3]
 · match i with
   | 0 => cases hx; cases hr; exact h2
   | 1 => cases hx; cases hr; exact h4
   | i + 2 => simp at hx
theorem tCopyCk_0 (b : Nat) (v : Value) (hv : v.oneCell' = true) : AFh False Tryz.prog 76 [(0, ptr1 b, .val (ptr1 b))] [(1000, hdr1 b, .own 62 2 1 [.val (.pointer none), .val v])] (fun _ _ h => h = [(1000, hdr1 b, .own 62 2 1 [.val (ptr1 b), .val v])]) := by
 refine AFh.of_body 20 Tryz.func76 rfl Tryz.ntmps76 (Nat.le_of_ble_eq_true rfl) rfl ?_
 intro w0 M0 N0
 refine nav ?_
 (refine aC_region ?_ <;> refine xL 2 q_move ?_ <;> refine xL 3 (q_nilo 1000) ?_ <;> refine xL 4 (q_fldo 1000 tFl62_0_PtL) ?_ <;> (refine yL 5 (q_ldo 1000 tNa59_PtL) fun v5 hv5 => ?_; cases hv5) <;> refine xL 6 ((q_pnil rfl rfl)) ?_ <;> refine aL_end (nav ?_) <;> try dsimp only)
 refine cCt ?_
 refine nav ?_
 (refine aC_region ?_ <;> refine xL 7 q_move ?_ <;> refine xL 8 q_move ?_ <;> refine xL 9 ((q_p2u (k := 2) 1000 rfl rfl rfl (by decide))) ?_ <;> refine xL 10 ((q_noesc rfl (by kernel_rfl) (by kernel_rfl) (by kernel_rfl) (by kernel_rfl))) ?_ <;> refine xL 11 ((q_u2p 1000 rfl rfl rfl (by kernel_rfl))) ?_ <;> refine xL 12 (q_nilo 1000) ?_ <;> refine xL 13 (q_fldo 1000 tFl62_0_PtL) ?_ <;> refine s_st 1000 tNa59_PtL tSz59_PtL ?_ <;> refine aL_end (nav ?_) <;> try dsimp only)
 exact end_h0 [(1000, hdr1 b, .own 62 2 1 [.val (ptr1 b), .val v])] (Tryz.results76) ⟨rfl, trivial⟩ rfl
theorem tCopyCk_1 (b : Nat) (v : Value) (hv : v.oneCell' = true) : AFh False Tryz.prog 76 [(0, ptr1 b, .val (ptr1 b))] [(1000, hdr1 b, .own 62 2 1 [.val (ptr1 b), .val v])] (fun _ _ h => h = [(1000, hdr1 b, .own 62 2 1 [.val (ptr1 b), .val v])]) := by
 refine AFh.of_body 20 Tryz.func76 rfl Tryz.ntmps76 (Nat.le_of_ble_eq_true rfl) rfl ?_
 intro w0 M0 N0
 refine nav ?_
 (refine aC_region ?_ <;> refine xL 2 q_move ?_ <;> refine xL 3 (q_nilo 1000) ?_ <;> refine xL 4 (q_fldo 1000 tFl62_0_PtL) ?_ <;> (refine yL 5 (q_ldo 1000 tNa59_PtL) fun v5 hv5 => ?_; cases hv5) <;> refine xL 6 ((q_psome rfl rfl)) ?_ <;> refine aL_end (nav ?_) <;> try dsimp only)
 refine cCf ?_
 refine nav ?_
 (refine aC_region ?_ <;> refine xL 14 q_move ?_ <;> refine xL 15 (q_nilo 1000) ?_ <;> refine xL 16 (q_fldo 1000 tFl62_0_PtL) ?_ <;> (refine yL 17 (q_ldo 1000 tNa59_PtL) fun v17 hv17 => ?_; cases hv17) <;> refine xL 18 q_move ?_ <;> refine xL 19 ((q_psame rfl rfl)) ?_ <;> refine aL_end (nav ?_) <;> try dsimp only)
 refine cCf ?_
 refine nav ?_
 exact end_h0 [(1000, hdr1 b, .own 62 2 1 [.val (ptr1 b), .val v])] (Tryz.results76) ⟨rfl, trivial⟩ rfl
theorem tCopyCk_e (b : Nat) (p v : Value) (hp : p = .pointer none ∨ p = ptr1 b) (hv : v.oneCell' = true) : AFh False Tryz.prog 76 [(0, ptr1 b, .val (ptr1 b))] [(1000, hdr1 b, .own 62 2 1 [.val p, .val v])] (fun _ _ h => h = [(1000, hdr1 b, .own 62 2 1 [.val (ptr1 b), .val v])]) := by
 rcases hp with rfl | rfl
 · exact tCopyCk_0 b v hv
 · exact tCopyCk_1 b v hv
theorem tWriteS_e (b : Nat) (p v : Value) (bs : List UInt8) (s : ByteArray) (hp : p = .pointer none ∨ p = ptr1 b) (hv : v.oneCell' = true) (hl : bs.length + s.size ≤ 1000000000) : AFh False Tryz.prog 54 [(0, ptr1 b, .val (ptr1 b)), (1, .string s, pStr s)] (ByH b p v bs) (fun _ _ h => ∃ v', v'.oneCell' = true ∧ h = ByH b (ptr1 b) v' (bs ++ s.data.toList)) := by
 have hone : En.one (PV.val v) = true := hv
 have hsz : s.data.toList.length = s.size := Array.length_toList
 unfold ByH
 refine AFh.of_body 19 Tryz.func54 rfl Tryz.ntmps54 (Nat.le_of_ble_eq_true rfl) rfl ?_
 intro w0 M0 N0
 refine nav ?_
 (refine aC_region ?_ <;> refine xL 4 q_assign ?_ <;> refine xL 5 q_assign ?_ <;> refine aL_end (nav ?_) <;> try dsimp only)
 (refine aC_region ?_ <;> refine xL 6 q_move ?_ <;> (refine aL_ch [1001] 7 (Tryz.call76) (tCopyCk_e b p v hp hv) (fun v7 p7 h7 hR7 => ?_); subst hR7) <;> refine aL_end (nav ?_) <;> try dsimp only)
 (refine aC_region ?_ <;> refine xL 8 q_move ?_ <;> refine xL 9 q_move ?_ <;> refine xL 10 (q_nilo 1000) ?_ <;> refine xL 11 (q_fldo 1000 tFl62_1_PtL) ?_ <;> (refine yL 12 (q_ldo 1000 tNa60_PtL) fun v12 hv12 => ?_; cases hv12) <;> refine xL 13 q_move ?_ <;> (refine s_apStr (n := bs.length) (bs := bs) (s := s) 1001 14 tEl60_PtL rfl (fun h14 ho14 => ?_) (by omega); have hone14 : En.one (PV.val h14) = true := ho14) <;> refine xL 15 (q_nilo 1000) ?_ <;> refine xL 16 (q_fldo 1000 tFl62_1_PtL) ?_ <;> refine s_st 1000 tNa60_PtL tSz60_PtL ?_ <;> refine aL_end (nav ?_) <;> try dsimp only)
 (refine aC_region ?_ <;> refine xL 17 q_move ?_ <;> refine xL 18 (q_slen Tryz.underlying9) ?_ <;> refine xL 4 q_assign ?_ <;> refine xL 5 q_assign ?_ <;> refine aL_end (nav ?_) <;> try dsimp only)
 refine aR_ent (relabel (l := 14) 1001 rfl rfl) fun _ => ?_
 refine ret_hss [(1000, hdr1 b, .own 62 2 1 [.val (ptr1 b), .val h14]), (1001, h14, .own 5 1 (bs.length + s.size) (bs.map pByte ++ s.data.toList.map pByte))] (Tryz.results54) rfl rfl ⟨rfl, rfl, trivial⟩ ⟨h14, ho14, ?_⟩
 rw [List.length_append, hsz, List.map_append]
theorem tBLen_e (b : Nat) (p v : Value) (bs : List UInt8) (hv : v.oneCell' = true) : AFh False Tryz.prog 34 [(0, ptr1 b, .val (ptr1 b))] (ByH b p v bs) (fun u q h => u = .int .i64 bs.length ∧ q = pInt bs.length ∧ h = ByH b p v bs) := by
 have hone : En.one (PV.val v) = true := hv
 unfold ByH
 refine AFh.of_body 8 Tryz.func34 rfl Tryz.ntmps34 (Nat.le_of_ble_eq_true rfl) rfl ?_
 intro w0 M0 N0
 refine nav ?_
 (refine aC_region ?_ <;> refine xL 2 q_assign ?_ <;> refine aL_end (nav ?_) <;> try dsimp only)
 (refine aC_region ?_ <;> refine xL 3 q_move ?_ <;> refine xL 4 (q_nilo 1000) ?_ <;> refine xL 5 (q_fldo 1000 tFl62_1_PtL) ?_ <;> (refine yL 6 (q_ldo 1000 tNa60_PtL) fun v6 hv6 => ?_; cases hv6) <;> refine xL 7 (q_leno 1001 tSl60_PtL) ?_ <;> refine xL 2 q_assign ?_ <;> refine aL_end (nav ?_) <;> try dsimp only)
 exact ret_h (ByH b p v bs) (Tryz.results34) rfl ⟨rfl, rfl, trivial⟩ ⟨rfl, rfl, rfl⟩
theorem tBStr_e (b : Nat) (p v : Value) (bs : List UInt8) (hne : bs ≠ []) (hv : v.oneCell' = true) : AFh False Tryz.prog 35 [(0, ptr1 b, .val (ptr1 b))] (ByH b p v bs) (fun u q h => u = .string ⟨bs.toArray⟩ ∧ q = .val u ∧ h = []) := by
 have hone : En.one (PV.val v) = true := hv
 have hnl : 0 < bs.length := by cases bs with
  | nil => exact absurd rfl hne
  | cons x l => exact Nat.succ_pos _
 unfold ByH
 refine AFh.of_body 14 Tryz.func35 rfl Tryz.ntmps35 (Nat.le_of_ble_eq_true rfl) rfl ?_
 intro w0 M0 N0
 refine nav ?_
 (refine aC_region ?_ <;> refine xL 2 q_assign ?_ <;> refine aL_end (nav ?_) <;> try dsimp only)
 (refine aC_draw (fun i => ([10, 11] : List Nat).elem i) [1000, 1001] (by kernel_rfl) ?_ <;> refine xDT 0 3 rfl q_move ?_ <;> refine xDT 1 4 rfl (q_nilo 1000) ?_ <;> refine xDT 2 5 rfl (q_fldo 1000 tFl62_1_PtL) ?_ <;> (refine yDT 3 6 rfl (q_ldo 1000 tNa60_PtL) fun v6 hv6 => ?_; cases hv6) <;> refine xDT 4 7 rfl (q_usd 1001) ?_ <;> refine xE 5 8 rfl q_move ?_ <;> refine xE 6 9 rfl (q_nilo 1000) ?_ <;> refine xE 7 10 rfl (q_fldo 1000 tFl62_1_PtL) ?_ <;> (refine yE 8 11 rfl (q_ldo 1000 tNa60_PtL) fun v11 hv11 => ?_; cases hv11) <;> refine xE 9 12 rfl (q_leno 1001 tSl60_PtL) ?_ <;> (refine aD_one 10 (by kernel_rfl) ?_) <;> (refine aW_thenZ rfl rfl fun DQ back => ?_) <;> refine s_ustr (n := bs.length) (bs := bs) 1001 13 rfl rfl ?_ hne rfl <;> refine aL_end (back _ ?_) <;> (refine aDZ_one 11 (by kernel_rfl) rfl rfl fun DQ back => ?_) <;> refine xL 2 q_assign ?_ <;> refine aL_end (back _ ?_) <;> refine aDZ_end (by kernel_rfl) (nav ?_) <;> try dsimp only)
 exact ret_h [] (Tryz.results35) rfl trivial ⟨rfl, rfl, rfl⟩
theorem tWord_e (op : Int) : AF Tryz.prog 55 [pInt op] (· = pStr (wordT op)) := by
 refine AF.of_body 10 Tryz.func55 rfl Tryz.ntmps55 (Nat.le_of_ble_eq_true rfl) ?_
 intro w0 M0 vs hl hv
 obtain ⟨v0, rfl⟩ := len1 hl
 obtain rfl := hv 0 _ _ rfl rfl
 clear hl hv
 refine nav ?_
 (refine aC_region ?_ <;> refine xL 2 q_assign ?_ <;> refine aL_end (nav ?_) <;> try dsimp only)
 (refine aC_region ?_ <;> refine xL 3 q_move ?_ <;> refine aL_end (nav ?_) <;> try dsimp only)
 (refine aC_region ?_ <;> refine xL 5 q_eql ?_ <;> refine xL 4 q_assign ?_ <;> refine aL_end (nav ?_) <;> try dsimp only)
 (first | refine cCd ?_ ?_ | refine cC ?_ ?_) <;> intro hb4
 · first
   | exact Bool.noConfusion hb4
   | (
    refine nav ?_
    (refine aC_region ?_ <;> refine xL 2 q_assign ?_ <;> refine aL_end (nav ?_) <;> try dsimp only)
    refine ret_shr (Tryz.results55) rfl ?_
    rw [wordT, if_pos (by assumption)])
 · first
   | exact Bool.noConfusion hb4
   | (
    refine nav ?_
    (refine aC_region ?_ <;> refine xL 7 q_eql ?_ <;> refine xL 6 q_assign ?_ <;> refine aL_end (nav ?_) <;> try dsimp only)
    (first | refine cCd ?_ ?_ | refine cC ?_ ?_) <;> intro hb6
    · first
      | exact Bool.noConfusion hb6
      | (
       refine nav ?_
       (refine aC_region ?_ <;> refine xL 2 q_assign ?_ <;> refine aL_end (nav ?_) <;> try dsimp only)
       refine ret_shr (Tryz.results55) rfl ?_
       rw [wordT, if_neg (by assumption), if_pos (by assumption)])
    · first
      | exact Bool.noConfusion hb6
      | (
       refine nav ?_
       (refine aC_region ?_ <;> refine xL 9 q_eql ?_ <;> refine xL 8 q_assign ?_ <;> refine aL_end (nav ?_) <;> try dsimp only)
       (first | refine cCd ?_ ?_ | refine cC ?_ ?_) <;> intro hb8
       · first
         | exact Bool.noConfusion hb8
         | (
          refine nav ?_
          (refine aC_region ?_ <;> refine xL 2 q_assign ?_ <;> refine aL_end (nav ?_) <;> try dsimp only)
          refine ret_shr (Tryz.results55) rfl ?_
          rw [wordT, if_neg (by assumption), if_neg (by assumption), if_pos (by assumption)])
       · first
         | exact Bool.noConfusion hb8
         | (
          refine nav ?_
          (refine aC_region ?_ <;> refine xL 2 q_assign ?_ <;> refine aL_end (nav ?_) <;> try dsimp only)
          refine ret_shr (Tryz.results55) rfl ?_
          rw [wordT, if_neg (by assumption), if_neg (by assumption), if_neg (by assumption)])))
set_option maxHeartbeats 4000000 in
theorem tWrite_e : ∀ t : Nd, okT t = true → ∀ (b : Nat) (p v V : Value) (bs : List UInt8), (p = .pointer none ∨ p = ptr1 b) → v.oneCell' = true → bs.length + 100 * szT t ≤ 1000000000 → AFh False Tryz.prog 33 [(0, ptr1 b, .val (ptr1 b)), (1, V, pTr t)] (ByH b p v bs) (fun _ _ h => ∃ v', v'.oneCell' = true ∧ h = ByH b (ptr1 b) v' (bs ++ textT t)) := Nd.ind fun o a l ih hok b p v V bs hpp hv hlen => by
 obtain ⟨hr, hp⟩ := okT_iff.1 hok
 have h40 := right_sz hr
 have hops := right_ops hr
 have hsz := szT_eq (.mk o a l)
 simp only [Nd.l, Nd.act, Nd.op] at hp h40 hops hsz
 have e0 : pTr (.mk o a l) = .agg [pInt o, pStr a, pTrs l] := rfl
 rw [e0]
 have h41 : (a.data.toList).length = a.size := Array.length_toList
 have hw4 := wordT_len o
 have hlz := len_szL l
 unfold ByH
 refine AFh.of_body 42 Tryz.func33 rfl Tryz.ntmps33 (Nat.le_of_ble_eq_true rfl) rfl ?_
 intro w0 M0 N0
 refine nav ?_
 (refine aC_region ?_ <;> refine s_boxa 3 3 fun h3 => ?_ <;> refine aL_end (nav ?_) <;> try dsimp only)
 (refine aC_region ?_ <;> refine xL 6 (q_fldo 3 tFl24_0_PtL) ?_ <;> (refine yL 7 (q_ldo 3 tNa3_PtL) fun v7 hv7 => ?_; cases hv7) <;> refine aL_end (nav ?_) <;> try dsimp only)
 (refine aC_region ?_ <;> refine xL 9 q_eql ?_ <;> refine xL 8 q_assign ?_ <;> refine aL_end (nav ?_) <;> try dsimp only)
 (first | refine cCd ?_ ?_ | refine cC ?_ ?_) <;> intro hb8
 · first
   | exact Bool.noConfusion hb8
   | (
    refine nav ?_
    (refine aC_region ?_ <;> refine xL 10 q_move ?_ <;> refine xL 11 (q_fldo 3 tFl24_1_PtL) ?_ <;> (refine yL 12 (q_ldo 3 tNa9_PtL) fun v12 hv12 => ?_; cases hv12) <;> (refine aL_heap [(1000, hdr1 b, PV.own 62 2 1 [PV.val p, PV.val v]), (1001, v, PV.own 5 1 bs.length (bs.map pByte))] ⟨rfl, rfl, trivial⟩ ?_; refine aL_ch [] 13 (Tryz.call54) (tWriteS_e b p v bs a hpp hv (by omega)) (fun v13 p13 h13 hR13 => ?_); obtain ⟨w1, hw1, rfl⟩ := hR13; dsimp only [ByH]) <;> refine aL_end (nav ?_) <;> try dsimp only)
    refine ret_h0 (ByH b (ptr1 b) w1 (bs ++ a.data.toList)) (Tryz.results33) ⟨rfl, rfl, trivial⟩ ⟨w1, hw1, ?_⟩
    rw [textT, if_pos (by omega)]; rfl)
 · first
   | exact Bool.noConfusion hb8
   | (
    refine nav ?_
    (refine aC_region ?_ <;> refine xL 15 q_eql ?_ <;> refine xL 14 q_assign ?_ <;> refine aL_end (nav ?_) <;> try dsimp only)
    (first | refine cCd ?_ ?_ | refine cC ?_ ?_) <;> intro hb14
    · first
      | exact Bool.noConfusion hb14
      | (
       refine nav ?_
       (refine aC_region ?_ <;> refine xL 16 q_move ?_ <;> (refine aL_heap [(1000, hdr1 b, PV.own 62 2 1 [PV.val p, PV.val v]), (1001, v, PV.own 5 1 bs.length (bs.map pByte))] ⟨rfl, rfl, trivial⟩ ?_; refine aL_ch [] 17 (Tryz.call54) (tWriteS_e b p v bs ⟨#[40, 41]⟩ hpp hv (by show bs.length + 2 ≤ _; omega)) (fun v17 p17 h17 hR17 => ?_); obtain ⟨w1, hw1, rfl⟩ := hR17; dsimp only [ByH]) <;> refine aL_end (nav ?_) <;> try dsimp only)
       refine ret_h0 (ByH b (ptr1 b) w1 (bs ++ [40, 41])) (Tryz.results33) ⟨rfl, rfl, trivial⟩ ⟨w1, hw1, ?_⟩
       rw [textT, if_neg (by omega), if_pos (by omega)]; rfl)
    · first
      | exact Bool.noConfusion hb14
      | (
       have ho2 : ¬ o = 1 ∧ ¬ o = 2 := ⟨by omega, by omega⟩
       have hj40 : (⟨#[40]⟩ : ByteArray).size = 1 := rfl
       have hw6 : (wordT o).size ≤ 4 := by
        have : (wordT o).data.toList.length = (wordT o).size := Array.length_toList
        omega
       obtain ⟨B0, hB0⟩ : ∃ B0, B0 = bs ++ ((wordT o).data.toList ++ [40]) := ⟨_, rfl⟩
       have hB0l : B0.length ≤ bs.length + 5 := by rw [hB0]; simp only [List.length_append, List.length_cons, List.length_nil]; omega
       have hwd : (wordT o ++ ⟨#[40]⟩).data.toList = (wordT o).data.toList ++ [40] := by rw [ByteArray.data_append, Array.toList_append]
       have hws : (wordT o ++ ⟨#[40]⟩).size ≤ 5 := by
        have : (wordT o ++ ⟨#[40]⟩).data.toList.length = (wordT o ++ ⟨#[40]⟩).size := Array.length_toList
        rw [← this, hwd, List.length_append]; simp only [List.length_cons, List.length_nil]; omega
       refine nav ?_
       (refine aC_region ?_ <;> refine xL 18 q_move ?_ <;> refine xL 19 (q_fldo 3 tFl24_0_PtL) ?_ <;> (refine yL 20 (q_ldo 3 tNa3_PtL) fun v20 hv20 => ?_; cases hv20) <;> (refine cS 21 (cA Tryz.call55 (tWord_e o)) fun v21 hv21 => ?_; cases hv21) <;> refine xL 22 q_sadd ?_ <;> (refine aL_heap [(1000, hdr1 b, PV.own 62 2 1 [PV.val p, PV.val v]), (1001, v, PV.own 5 1 bs.length (bs.map pByte)), (3, _, _)] ⟨rfl, rfl, rfl, trivial⟩ ?_; refine aL_ch [3] 23 (Tryz.call54) (tWriteS_e b p v bs (wordT o ++ ⟨#[40]⟩) hpp hv (by omega)) (fun v23 p23 h23 hR23 => ?_); obtain ⟨w1, hw1, rfl⟩ := hR23; rw [hwd, ← hB0]; dsimp only [ByH]) <;> refine aL_end (nav ?_) <;> try dsimp only)
       (refine aC_region ?_ <;> refine xL 24 (q_fldo 3 tFl24_2_PtL) ?_ <;> (refine yL 25 (q_ldo 3 tNa22_PtL) fun v25 hv25 => ?_; cases hv25) <;> refine xL 26 (q_len tSl22_PtL) ?_ <;> refine xL 27 q_move ?_ <;> refine aL_end (nav ?_) <;> try dsimp only)
       refine aC_ent (recast (l := 1001) rfl (show PV.own 5 1 B0.length (B0.map pByte) = .own 5 1 (B0 ++ comB (textL (l.take 0))).length ((B0 ++ comB (textL (l.take 0))).map pByte) by simp [textL, comB])) fun _ => ?_
       refine aC_loop (ι := { q : Nat × Value // q.1 ≤ l.length ∧ q.2.oneCell' = true }) (fun k => ⟨[(0, _, _), (25, _, _), (26, _, _), (27, .int .i64 k.1.1, pInt k.1.1)], [(1000, hdr1 b, .own 62 2 1 [PV.val (ptr1 b), PV.val k.1.2]), (1001, k.1.2, .own 5 1 (B0 ++ comB (textL (l.take k.1.1))).length ((B0 ++ comB (textL (l.take k.1.1))).map pByte))]⟩) (fun k => l.length - k.1.1) ⟨(0, w1), Nat.zero_le _, hw1⟩ (fun a w H => H.weaken ⟨rfl, rfl, rfl, rfl, trivial⟩ ⟨rfl, rfl, trivial⟩) ?_
       rintro ⟨⟨k, u⟩, hk, hu⟩
       dsimp only
       dsimp only at hk hu; have htl := textP_len hp k
       refine nav ?_
       (refine aC_region ?_ <;> refine xL 28 q_lss ?_ <;> refine aL_end (nav ?_) <;> try dsimp only)
       (first | refine cCd ?_ ?_ | refine cC ?_ ?_) <;> intro hb28
       · first
         | exact Bool.noConfusion hb28
         | (
          obtain ⟨x, hx⟩ := get_some (show k < l.length by omega)
          have e1 : ((cTrs l).drop (k * 3)).take 3 = [pInt x.op, pStr x.act, pTrs x.l] := tr_drop hx
          have e2 := tr_fit hx
          have hxm := List.mem_of_getElem? hx
          have hxs := szL_mem hxm
          have hsn := textP_snoc hx
          have hsx := szP_len hx
          refine nav ?_
          (refine aC_region ?_ <;> refine xL 29 q_move ?_ <;> refine xL 30 (q_idxN tSl22_PtL) ?_ <;> (refine yL 31 (q_lda tAgg24_PtL) fun v31 hv31 => ?_; cases hv31) <;> refine s_alloc [(.int .i64 0), (.string ByteArray.empty), (.slice none 0 0)] 3 5 tZr24_PtL fun h5 => ?_ <;> refine xL 4 q_assign ?_ <;> refine s_sta 5 tAgg24_PtL ?_ <;> refine aL_end (nav ?_) <;> try dsimp only)
          (refine aC_region ?_ <;> refine xL 32 q_move ?_ <;> refine xL 33 q_gtr ?_ <;> refine aL_end (nav ?_) <;> try dsimp only)
          (first | refine cCd ?_ ?_ | refine cC ?_ ?_) <;> intro hb33
          · first
            | exact Bool.noConfusion hb33
            | (
             refine nav ?_
             (refine aC_region ?_ <;> refine xL 34 q_move ?_ <;> (refine aL_heap [(1000, hdr1 b, PV.own 62 2 1 [PV.val (ptr1 b), PV.val u]), (1001, u, PV.own 5 1 (B0 ++ comB (textL (l.take k))).length ((B0 ++ comB (textL (l.take k))).map pByte)), (5, _, _)] ⟨rfl, rfl, rfl, trivial⟩ ?_; refine aL_ch [5] 35 (Tryz.call54) (tWriteS_e b (ptr1 b) u (B0 ++ comB (textL (l.take k))) ⟨#[44, 32]⟩ (.inr rfl) hu (by rw [List.length_append]; show _ + 2 ≤ _; omega)) (fun v35 p35 h35 hR35 => ?_); obtain ⟨w2, hw2, rfl⟩ := hR35; dsimp only [ByH]) <;> refine aL_end (nav ?_) <;> try dsimp only)
             (refine aC_region ?_ <;> refine xL 36 q_move ?_ <;> (refine yL 37 (q_ldao 5 tAgg24_PtL) fun v37 hv37 => ?_; cases hv37) <;> (first | (refine aL_heap [(1000, hdr1 b, PV.own 62 2 1 [PV.val (ptr1 b), PV.val w2]), (1001, w2, PV.own 5 1 (B0 ++ comB (textL (l.take k)) ++ [44, 32]).length ((B0 ++ comB (textL (l.take k)) ++ [44, 32]).map pByte))] ⟨rfl, rfl, trivial⟩ ?_; refine aL_ch [] 38 (Tryz.call33) (ih x hxm (hp x hxm) b (ptr1 b) w2 _ (B0 ++ comB (textL (l.take k)) ++ [44, 32]) (.inr rfl) hw2 (by rw [List.length_append, List.length_append]; simp only [List.length_cons, List.length_nil]; omega)) (fun v38 p38 h38 hR38 => ?_); obtain ⟨w3, hw3, rfl⟩ := hR38; rw [show B0 ++ comB (textL (l.take k)) ++ [44, 32] ++ textT x = B0 ++ comB (textL (l.take (k + 1))) by rw [hsn, if_neg (by omega)]; simp only [List.append_assoc]]; dsimp only [ByH]) | (refine aL_heap [(1000, hdr1 b, PV.own 62 2 1 [PV.val (ptr1 b), PV.val u]), (1001, u, PV.own 5 1 (B0 ++ comB (textL (l.take k))).length ((B0 ++ comB (textL (l.take k))).map pByte))] ⟨rfl, rfl, trivial⟩ ?_; refine aL_ch [] 38 (Tryz.call33) (ih x hxm (hp x hxm) b (ptr1 b) u _ (B0 ++ comB (textL (l.take k))) (.inr rfl) hu (by rw [List.length_append]; omega)) (fun v38 p38 h38 hR38 => ?_); obtain ⟨w3, hw3, rfl⟩ := hR38; rw [show B0 ++ comB (textL (l.take k)) ++ textT x = B0 ++ comB (textL (l.take (k + 1))) by rw [hsn, if_pos (by omega)]; simp only [List.append_assoc, List.nil_append]]; dsimp only [ByH])) <;> refine aL_end (nav ?_) <;> try dsimp only)
             (refine aC_region ?_ <;> refine xL 39 q_add ?_ <;> refine xL 27 q_move ?_ <;> refine aL_end (nav ?_) <;> try dsimp only)
             refine aN_again (
              ⟨(k + 1, w3), lt_of_get hx, hw3⟩
              ) (by dsimp only; omega) ⟨rfl, rfl, rfl, rfl, trivial⟩ ⟨rfl, rfl, trivial⟩)
          · first
            | exact Bool.noConfusion hb33
            | (
             refine nav ?_
             (refine aC_region ?_ <;> refine xL 36 q_move ?_ <;> (refine yL 37 (q_ldao 5 tAgg24_PtL) fun v37 hv37 => ?_; cases hv37) <;> (first | (refine aL_heap [(1000, hdr1 b, PV.own 62 2 1 [PV.val (ptr1 b), PV.val w2]), (1001, w2, PV.own 5 1 (B0 ++ comB (textL (l.take k)) ++ [44, 32]).length ((B0 ++ comB (textL (l.take k)) ++ [44, 32]).map pByte))] ⟨rfl, rfl, trivial⟩ ?_; refine aL_ch [] 38 (Tryz.call33) (ih x hxm (hp x hxm) b (ptr1 b) w2 _ (B0 ++ comB (textL (l.take k)) ++ [44, 32]) (.inr rfl) hw2 (by rw [List.length_append, List.length_append]; simp only [List.length_cons, List.length_nil]; omega)) (fun v38 p38 h38 hR38 => ?_); obtain ⟨w3, hw3, rfl⟩ := hR38; rw [show B0 ++ comB (textL (l.take k)) ++ [44, 32] ++ textT x = B0 ++ comB (textL (l.take (k + 1))) by rw [hsn, if_neg (by omega)]; simp only [List.append_assoc]]; dsimp only [ByH]) | (refine aL_heap [(1000, hdr1 b, PV.own 62 2 1 [PV.val (ptr1 b), PV.val u]), (1001, u, PV.own 5 1 (B0 ++ comB (textL (l.take k))).length ((B0 ++ comB (textL (l.take k))).map pByte))] ⟨rfl, rfl, trivial⟩ ?_; refine aL_ch [] 38 (Tryz.call33) (ih x hxm (hp x hxm) b (ptr1 b) u _ (B0 ++ comB (textL (l.take k))) (.inr rfl) hu (by rw [List.length_append]; omega)) (fun v38 p38 h38 hR38 => ?_); obtain ⟨w3, hw3, rfl⟩ := hR38; rw [show B0 ++ comB (textL (l.take k)) ++ textT x = B0 ++ comB (textL (l.take (k + 1))) by rw [hsn, if_pos (by omega)]; simp only [List.append_assoc, List.nil_append]]; dsimp only [ByH])) <;> refine aL_end (nav ?_) <;> try dsimp only)
             (refine aC_region ?_ <;> refine xL 39 q_add ?_ <;> refine xL 27 q_move ?_ <;> refine aL_end (nav ?_) <;> try dsimp only)
             refine aN_again (
              ⟨(k + 1, w3), lt_of_get hx, hw3⟩
              ) (by dsimp only; omega) ⟨rfl, rfl, rfl, rfl, trivial⟩ ⟨rfl, rfl, trivial⟩))
       · first
         | exact Bool.noConfusion hb28
         | (
          rw [List.take_of_length_le (show l.length ≤ k by omega)]
          rw [List.take_of_length_le (show l.length ≤ k by omega)] at htl
          refine nav ?_
          (refine aC_region ?_ <;> refine xL 40 q_move ?_ <;> (refine aL_heap [(1000, hdr1 b, PV.own 62 2 1 [PV.val (ptr1 b), PV.val u]), (1001, u, PV.own 5 1 (B0 ++ comB (textL l)).length ((B0 ++ comB (textL l)).map pByte))] ⟨rfl, rfl, trivial⟩ ?_; refine aL_ch [] 41 (Tryz.call54) (tWriteS_e b (ptr1 b) u (B0 ++ comB (textL l)) ⟨#[41]⟩ (.inr rfl) hu (by rw [List.length_append]; show _ + 1 ≤ _; omega)) (fun v41 p41 h41 hR41 => ?_); obtain ⟨w4, hw4, rfl⟩ := hR41; dsimp only [ByH]) <;> refine aL_end (nav ?_) <;> try dsimp only)
          refine end_h0 (ByH b (ptr1 b) w4 (B0 ++ comB (textL l) ++ [41])) (Tryz.results33) ⟨rfl, rfl, trivial⟩ ⟨w4, hw4, ?_⟩
          have : bs ++ textT (.mk o a l) = B0 ++ comB (textL l) ++ [41] := by
           rw [textT, if_neg ho2.1, if_neg ho2.2, hB0]
           simp only [List.append_assoc]
          rw [this]
          rfl)))
def texX (t : Nd) : ByteArray × Int := if valT t = true then (if 16384 < (textT t).length then (ByteArray.empty, 5) else (⟨(textT t).toArray⟩, 0)) else (ByteArray.empty, 1)
theorem tText_e (t : Nd) (hf : FitT t) : AF Tryz.prog 11 [pTr t] (· = .tup [pStr (texX t).1, pInt (texX t).2]) := by
 refine AF.of_body 13 Tryz.func11 rfl Tryz.ntmps11 (Nat.le_of_ble_eq_true rfl) ?_
 intro w0 M0 vs hl hv
 obtain ⟨v0, rfl⟩ := len1 hl
 clear hl hv
 have e0 : pTr t = .agg [pInt t.op, pStr t.act, pTrs t.l] := rfl
 rw [e0]
 refine nav ?_
 (refine aC_region ?_ <;> refine s_boxa 1 3 fun h1 => ?_ <;> refine xL 2 q_assign ?_ <;> refine xL 3 q_assign ?_ <;> refine aL_end (nav ?_) <;> try dsimp only)
 (refine aC_region ?_ <;> (refine yL 5 (q_ldao 1 tAgg24_PtL) fun v5 hv5 => ?_; cases hv5) <;> (refine cS 6 (cA Tryz.call26 (tValid_e t hf)) fun v6 hv6 => ?_; cases hv6) <;> refine xL 7 q_not ?_ <;> refine aL_end (nav ?_) <;> try dsimp only)
 (first | refine cCd ?_ ?_ | refine cC ?_ ?_) <;> intro hb7
 · first
   | exact Bool.noConfusion hb7
   | (
    refine nav ?_
    (refine aC_region ?_ <;> refine xL 2 q_assign ?_ <;> refine xL 3 q_assign ?_ <;> refine aL_end (nav ?_) <;> try dsimp only)
    refine ret_ss (Tryz.results11) rfl rfl ?_
    rw [show texX t = (ByteArray.empty, 1) by unfold texX; rw [if_neg (by simpa using hb7)]]; try rfl)
 · first
   | exact Bool.noConfusion hb7
   | (
    have hv : valT t = true := by simpa using hb7
    have hok := val_ok hv
    have hsz := val_sz hv
    have hne := text_ne t hok
    refine nav ?_
    (refine aC_region ?_ <;> refine s_alloc1 [.pointer none, .slice none 0 0] 2 4 tZr62_PtL fun b4 => ?_ <;> refine aL_end (nav ?_) <;> try dsimp only)
    refine aC_ent (nilOwn 1001 5 1 rfl) fun _ => ?_
    refine aC_ent (relabel (l := 4) 1000 rfl rfl) fun _ => ?_
    (refine aC_region ?_ <;> (refine yL 8 (q_ldao 1 tAgg24_PtL) fun v8 hv8 => ?_; cases hv8) <;> (refine aL_heap [(1000, hdr1 b4, PV.own 62 2 1 [PV.val (.pointer none), PV.val (.slice none 0 0)]), (1001, .slice none 0 0, PV.own 5 1 ([] : List UInt8).length (([] : List UInt8).map pByte))] ⟨rfl, rfl, trivial⟩ ?_; refine aL_ch [] 9 (Tryz.call33) (tWrite_e t hok b4 (.pointer none) (.slice none 0 0) _ [] (.inl rfl) rfl (by show 0 + _ ≤ _; omega)) (fun v9 p9 h9 hR9 => ?_); obtain ⟨w1, hw1, rfl⟩ := hR9; rw [List.nil_append]; dsimp only [ByH]) <;> refine aL_end (nav ?_) <;> try dsimp only)
    (refine aC_region ?_ <;> (refine aL_ch [] 10 (Tryz.call34) (tBLen_e b4 (ptr1 b4) w1 (textT t) hw1) ?_; rintro _ _ _ ⟨rfl, rfl, rfl⟩; dsimp only [ByH]) <;> refine xL 11 q_gtr ?_ <;> refine aL_end (nav ?_) <;> try dsimp only)
    (first | refine cCd ?_ ?_ | refine cC ?_ ?_) <;> intro hb11
    · first
      | exact Bool.noConfusion hb11
      | (
       refine nav ?_
       (refine aC_region ?_ <;> refine xL 2 q_assign ?_ <;> refine xL 3 q_assign ?_ <;> refine aL_end (nav ?_) <;> try dsimp only)
       refine ret_ss (Tryz.results11) rfl rfl ?_
       rw [show texX t = (ByteArray.empty, 5) by unfold texX; rw [if_pos hv, if_pos (by omega)]]; try rfl)
    · first
      | exact Bool.noConfusion hb11
      | (
       refine nav ?_
       (refine aC_region ?_ <;> (refine aL_ch [] 12 (Tryz.call35) (tBStr_e b4 (ptr1 b4) w1 (textT t) hne hw1) ?_; rintro _ _ _ ⟨rfl, rfl, rfl⟩) <;> refine xL 2 q_assign ?_ <;> refine xL 3 q_assign ?_ <;> refine aL_end (nav ?_) <;> try dsimp only)
       refine ret_ss (Tryz.results11) rfl rfl ?_
       rw [show texX t = (⟨(textT t).toArray⟩, 0) by unfold texX; rw [if_pos hv, if_neg (by omega)]]; try rfl))
theorem tEl60_PtS : ElT Tryz.prog 60 5 1 1 (.int .u8 0) := ⟨Tryz.underlying60, by kernel_rfl, rfl, by decide⟩
theorem tFl157_0_PtS : FldT Tryz.prog 157 0 0 = true := by kernel_rfl
theorem tFl157_1_PtS : FldT Tryz.prog 157 1 1 = true := by kernel_rfl
theorem tFl62_1_PtS : FldT Tryz.prog 62 1 1 = true := by kernel_rfl
theorem tNa3_PtS : NoAgg Tryz.prog 3 = true := by kernel_rfl
theorem tNa60_PtS : NoAgg Tryz.prog 60 = true := by kernel_rfl
theorem tNa9_PtS : NoAgg Tryz.prog 9 = true := by kernel_rfl
theorem tSl60_PtS : SlT Tryz.prog 60 5 1 = true := by kernel_rfl
theorem tSz3_PtS : (Tryz.prog.info? 3).map (·.size) = some 1 := by kernel_rfl
theorem tSz60_PtS : (Tryz.prog.info? 60).map (·.size) = some 1 := by kernel_rfl
theorem tZr62_PtS : ZeroT Tryz.prog 62 (.agg #[(.pointer none), (.slice none 0 0)]) := by unfold ZeroT; kernel_rfl
theorem tWriteB_e (b : Nat) (p v : Value) (bs : List UInt8) (s : UInt8) (hp : p = .pointer none ∨ p = ptr1 b) (hv : v.oneCell' = true) (hl : bs.length ≤ 1000000000) : AFh False Tryz.prog 148 [(0, ptr1 b, .val (ptr1 b)), (1, .int .u8 s.toNat, pU8 s.toNat)] (ByH b p v bs) (fun _ _ h => ∃ v', v'.oneCell' = true ∧ h = ByH b (ptr1 b) v' (bs ++ [s])) := by
 have hone : En.one (PV.val v) = true := hv
 have hbm : (bs.map pByte).length = bs.length := List.length_map ..
 unfold ByH
 refine AFh.of_body 17 Tryz.func148 rfl Tryz.ntmps148 (Nat.le_of_ble_eq_true rfl) rfl ?_
 intro w0 M0 N0
 refine nav ?_
 (refine aC_region ?_ <;> refine xL 4 q_assign ?_ <;> refine aL_end (nav ?_) <;> try dsimp only)
 (refine aC_region ?_ <;> refine xL 5 q_move ?_ <;> (refine aL_ch [1001] 6 (Tryz.call76) (tCopyCk_e b p v hp hv) (fun v7 p7 h7 hR7 => ?_); subst hR7) <;> refine aL_end (nav ?_) <;> try dsimp only)
 (refine aC_region ?_ <;> refine xL 7 q_move ?_ <;> refine xL 8 q_move ?_ <;> refine xL 9 (q_nilo 1000) ?_ <;> refine xL 10 (q_fldo 1000 tFl62_1_PtS) ?_ <;> (refine yL 11 (q_ldo 1000 tNa60_PtS) fun v11 hv11 => ?_; cases hv11) <;> refine xL 12 q_move ?_ <;> refine s_lit1 (kk := 1) 13 tEl60_PtS fun h13 ho13 => ?_ <;> (refine s_app 1001 13 14 tEl60_PtS fun h14 ho14 => ?_; have hone14 : En.one (PV.val h14) = true := ho14) <;> refine xL 15 (q_nilo 1000) ?_ <;> refine xL 16 (q_fldo 1000 tFl62_1_PtS) ?_ <;> refine s_st 1000 tNa60_PtS tSz60_PtS ?_ <;> refine aL_end (nav ?_) <;> try dsimp only)
 (refine aC_region ?_ <;> refine xL 4 q_assign ?_ <;> refine aL_end (nav ?_) <;> try dsimp only)
 refine aR_ent (relabel (l := 14) 1001 rfl rfl) fun _ => ?_
 refine ret_h [(1000, hdr1 b, .own 62 2 1 [.val (ptr1 b), .val h14]), (1001, h14, .own 5 1 (bs.length + 1) (bs.map pByte ++ [pByte s]))] (Tryz.results148) rfl ⟨rfl, rfl, trivial⟩ ⟨h14, ho14, ?_⟩
 rw [List.length_append, List.map_append]
 rfl
def prnB (l : List UInt8) : Bool := l.all fun c => decide (32 ≤ c.toNat) && decide (c.toNat ≤ 126)
theorem prn_bad {l : List UInt8} {k : Nat} {c : UInt8} (h : l[k]? = some c) (hc : (c.toNat : Int) < 32 ∨ 126 < (c.toNat : Int)) : prnB l = false := by
 unfold prnB
 rw [List.all_eq_false]
 refine ⟨c, List.mem_of_getElem? h, ?_⟩
 simp only [Bool.and_eq_true, decide_eq_true_eq]
 omega
theorem prn_good {l : List UInt8} (h : ∀ (j : Nat) (c : UInt8), l[j]? = some c → ¬ (c.toNat : Int) < 32 ∧ ¬ 126 < (c.toNat : Int)) : prnB l = true := by
 unfold prnB
 rw [List.all_eq_true]
 intro c hc
 obtain ⟨j, hj⟩ := List.getElem?_of_mem hc
 have := h j c hj
 simp only [Bool.and_eq_true, decide_eq_true_eq]
 omega
theorem nmPrintable_e (l : List UInt8) (hl : l.length ≤ 1000000) : AF Tryz.prog 120 [pB l] (· = pBool (prnB l)) := by
 have hsz := bst_size l
 refine AF.of_body 20 Tryz.func120 rfl Tryz.ntmps120 (Nat.le_of_ble_eq_true rfl) ?_
 intro w0 M0 vs hl hv
 obtain ⟨v0, rfl⟩ := len1 hl
 obtain rfl := hv 0 _ _ rfl rfl
 clear hl hv
 refine nav ?_
 (refine aC_region ?_ <;> refine xL 2 q_assign ?_ <;> refine aL_end (nav ?_) <;> try dsimp only)
 (refine aC_region ?_ <;> refine xL 4 q_move ?_ <;> refine xL 5 (q_slen Tryz.underlying9) ?_ <;> refine xL 6 q_move ?_ <;> refine aL_end (nav ?_) <;> try dsimp only)
 refine aC_loop (ι := { k : Nat // k ≤ l.length ∧ ∀ (j : Nat) (c : UInt8), j < k → l[j]? = some c → ¬ (c.toNat : Int) < 32 ∧ ¬ 126 < (c.toNat : Int) }) (fun k => ⟨[(0, _, _), (5, _, _), (6, .int .i64 k.1, pInt k.1)], []⟩) (fun k => l.length - k.1) ⟨0, Nat.zero_le _, fun j d hj => absurd hj (Nat.not_lt_zero _)⟩ (fun a w H => H.weaken ⟨rfl, rfl, rfl, trivial⟩ trivial) ?_
 rintro ⟨k, hk, hp⟩
 dsimp only
 try dsimp only at hk hp
 refine nav ?_
 (refine aC_region ?_ <;> refine xL 7 q_lss ?_ <;> refine aL_end (nav ?_) <;> try dsimp only)
 (first | refine cCd ?_ ?_ | refine cC ?_ ?_) <;> intro hb7
 · first
   | exact Bool.noConfusion hb7
   | (
    obtain ⟨c, hcx⟩ := get_byte (show k < l.length by omega)
    have hcy := bst_at hcx
    refine nav ?_
    (refine aC_region ?_ <;> refine xL 8 q_move ?_ <;> refine xL 3 q_assign ?_ <;> refine aL_end (nav ?_) <;> try dsimp only)
    (refine aC_region ?_ <;> refine xL 9 q_move ?_ <;> refine xL 10 q_move ?_ <;> refine xL 11 (q_index Tryz.underlying9) ?_ <;> refine xL 12 q_lss ?_ <;> refine xL 13 q_move ?_ <;> (refine bLd 13 (fun hb13 => ?_) (fun hb13 => ?_) <;> (first | refine kL 14 ?_ | refine xL 14 q_move ?_)) <;> (first | refine kL 15 ?_ | refine xL 15 q_move ?_) <;> (first | refine kL 16 ?_ | refine kL 16 ?_ | refine xL 16 (q_index Tryz.underlying9) ?_) <;> (first | refine kL 17 ?_ | refine xL 17 q_gtr ?_) <;> refine xL 18 q_pick ?_ <;> refine aL_end (nav ?_) <;> try dsimp only) <;> (
     (first | refine cCd ?_ ?_ | refine cC ?_ ?_) <;> intro hb18
     · first
       | exact Bool.noConfusion hb18
       | (
        refine nav ?_
        (refine aC_region ?_ <;> refine xL 2 q_assign ?_ <;> refine aL_end (nav ?_) <;> try dsimp only)
        refine ret_shr (Tryz.results120) rfl ?_
        rw [prn_bad hcx (by omega)])
     · first
       | exact Bool.noConfusion hb18
       | (
        refine nav ?_
        (refine aC_region ?_ <;> refine xL 19 q_add ?_ <;> refine xL 6 q_move ?_ <;> refine aL_end (nav ?_) <;> try dsimp only)
        refine aN_again (
         ⟨k + 1, by omega, fun j d hj hd => by
          rcases Nat.lt_or_ge j k with h | h
          · exact hp j d h hd
          · obtain rfl : j = k := by omega
            rw [hcx] at hd; cases hd; omega⟩
         ) (by dsimp only; omega) ⟨rfl, rfl, rfl, trivial⟩ trivial)))
 · first
   | exact Bool.noConfusion hb7
   | (
    refine nav ?_
    (refine aC_region ?_ <;> refine xL 2 q_assign ?_ <;> refine aL_end (nav ?_) <;> try dsimp only)
    refine ret_shr (Tryz.results120) rfl ?_
    rw [prn_good fun j d hd => hp j d (by have := lt_of_get hd; omega) hd])
def NrH (b : Nat) (l : List UInt8) (i : Nat) : List (Nat × Ent) := [(1002, hdr1 b, .own 157 2 1 [pB l, pInt i])]
theorem nmMore_e (b : Nat) (l : List UInt8) (i : Nat) (hl : l.length ≤ 1000000) : AFh False Tryz.prog 122 [(0, ptr1 b, .val (ptr1 b))] (NrH b l i) (fun u q h => u = .bool (decide (i < l.length)) ∧ q = pBool (decide (i < l.length)) ∧ h = NrH b l i) := by
 have hsz := bst_size l
 unfold NrH
 refine AFh.of_body 13 Tryz.func122 rfl Tryz.ntmps122 (Nat.le_of_ble_eq_true rfl) rfl ?_
 intro w0 M0 N0
 refine nav ?_
 (refine aC_region ?_ <;> refine xL 2 q_assign ?_ <;> refine aL_end (nav ?_) <;> try dsimp only)
 (refine aC_draw (fun i => ([] : List Nat).elem i) [1002] (by kernel_rfl) ?_ <;> refine xD 0 3 rfl q_move ?_ <;> refine xD 1 4 rfl (q_nilo 1002) ?_ <;> refine xD 2 5 rfl (q_fldo 1002 tFl157_1_PtS) ?_ <;> (refine yD 3 6 rfl (q_ldo 1002 tNa3_PtS) fun v6 hv6 => ?_; cases hv6) <;> refine xE 4 7 rfl q_move ?_ <;> refine xE 5 8 rfl (q_nilo 1002) ?_ <;> refine xE 6 9 rfl (q_fldo 1002 tFl157_0_PtS) ?_ <;> (refine yE 7 10 rfl (q_ldo 1002 tNa9_PtS) fun v10 hv10 => ?_; cases hv10) <;> refine xE 8 11 rfl (q_slen Tryz.underlying9) ?_ <;> refine xE 9 12 rfl q_lss ?_ <;> refine xE 10 2 rfl q_assign ?_ <;> refine aD_end (by kernel_rfl) (nav ?_) <;> try dsimp only)
 have e : decide ((i : Int) < ((bst l).size : Int)) = decide (i < l.length) := by rw [hsz]; exact decide_eq_decide.2 (by omega)
 exact ret_h (NrH b l i) (Tryz.results122) rfl ⟨rfl, trivial⟩ ⟨congrArg Value.bool e, congrArg pBool e, rfl⟩
theorem nmNext_e (b : Nat) (l : List UInt8) (i : Nat) (c : UInt8) (hl : l.length ≤ 1000000) (hc : l[i]? = some c) : AFh False Tryz.prog 147 [(0, ptr1 b, .val (ptr1 b))] (NrH b l i) (fun u q h => u = .int .u8 c.toNat ∧ q = pU8 c.toNat ∧ h = NrH b l (i + 1)) := by
 have hi := lt_of_get hc
 have hcy : (bst l).data[((i : Int) + 1 - 1).toNat]? = some c := by
  rw [show ((i : Int) + 1 - 1).toNat = i by omega, bst_get]; exact hc
 unfold NrH
 refine AFh.of_body 20 Tryz.func147 rfl Tryz.ntmps147 (Nat.le_of_ble_eq_true rfl) rfl ?_
 intro w0 M0 N0
 refine nav ?_
 (refine aC_region ?_ <;> refine xL 2 q_assign ?_ <;> refine aL_end (nav ?_) <;> try dsimp only)
 (refine aC_region ?_ <;> refine xL 3 q_move ?_ <;> refine xL 4 (q_nilo 1002) ?_ <;> refine xL 5 (q_fldo 1002 tFl157_1_PtS) ?_ <;> (refine yL 6 (q_ldo 1002 tNa3_PtS) fun v6 hv6 => ?_; cases hv6) <;> refine xL 7 q_add ?_ <;> refine xL 8 (q_nilo 1002) ?_ <;> refine xL 9 (q_fldo 1002 tFl157_1_PtS) ?_ <;> refine s_st 1002 tNa3_PtS tSz3_PtS ?_ <;> refine aL_end (nav ?_) <;> try dsimp only)
 (refine aC_draw (fun i => ([] : List Nat).elem i) [1002] (by kernel_rfl) ?_ <;> refine xD 0 10 rfl q_move ?_ <;> refine xD 1 11 rfl (q_nilo 1002) ?_ <;> refine xD 2 12 rfl (q_fldo 1002 tFl157_0_PtS) ?_ <;> (refine yD 3 13 rfl (q_ldo 1002 tNa9_PtS) fun v13 hv13 => ?_; cases hv13) <;> refine xE 4 14 rfl q_move ?_ <;> refine xE 5 15 rfl (q_nilo 1002) ?_ <;> refine xE 6 16 rfl (q_fldo 1002 tFl157_1_PtS) ?_ <;> (refine yE 7 17 rfl (q_ldo 1002 tNa3_PtS) fun v17 hv17 => ?_; cases hv17) <;> refine xE 8 18 rfl q_sub ?_ <;> refine xE 9 19 rfl (q_index Tryz.underlying9 rfl rfl rfl (by omega) hcy) ?_ <;> refine xE 10 2 rfl q_assign ?_ <;> refine aD_end (by kernel_rfl) (nav ?_) <;> try dsimp only)
 exact ret_h (NrH b l (i + 1)) (Tryz.results147) rfl ⟨rfl, trivial⟩ ⟨rfl, rfl, rfl⟩
theorem q_usd0 {P : Program} {st : St} {o : Oper} {x : Operand} {q : PV} {ats : Array TypeId} (ho : o.op = .call { callee := .builtin .unsafeSliceData, args := #[x], argTypes := ats } := by exact rfl) (hx : ev st.slots x = some (.slice none 0 0, q) := by exact rfl) : YE P st o (· = .pointer none) (.val (.pointer none)) :=
 .exact fun M F a w H => by
  have hv := (H.ev hx).1
  refine ⟨.val _, ?_⟩
  have := Lib.run_unsafeSliceData_nil (P := P) w ats o.type 0 0
  simp [execOp, ho, resolve, invoke, builtin, hv, this]
theorem q_ustr0 {P : Program} {st : St} {o : Oper} {x y : Operand} {q q' : PV} {pt it : TypeId} (ho : o.op = .call { callee := .builtin .unsafeString, args := #[x, y], argTypes := #[pt, it] } := by exact rfl) (hx : ev st.slots x = some (.pointer none, q) := by exact rfl) (hy : ev st.slots y = some (.int .i64 0, q') := by exact rfl) : YE P st o (· = .string .empty) (.val (.string .empty)) :=
 y2 hx hy fun ρ w h3 h4 => by
  have := Lib.run_unsafeString_none (P := P) w pt it o.type none
  simp [execOp, ho, resolve, invoke, builtin, h3, h4, this]
theorem tBStr_0 (b : Nat) (p : Value) : AFh False Tryz.prog 35 [(0, ptr1 b, .val (ptr1 b))] (ByH b p (.slice none 0 0) []) (fun u q h => u = .string ⟨#[]⟩ ∧ q = .val u ∧ h = []) := by
 unfold ByH
 refine AFh.of_body 14 Tryz.func35 rfl Tryz.ntmps35 (Nat.le_of_ble_eq_true rfl) rfl ?_
 intro w0 M0 N0
 refine nav ?_
 (refine aC_region ?_ <;> refine xL 2 q_assign ?_ <;> refine aL_end (nav ?_) <;> try dsimp only)
 (refine aC_draw (fun i => ([] : List Nat).elem i) [1000, 1001] (by kernel_rfl) ?_ <;> refine xD 0 3 rfl q_move ?_ <;> refine xD 1 4 rfl (q_nilo 1000) ?_ <;> refine xD 2 5 rfl (q_fldo 1000 tFl62_1_PtS) ?_ <;> (refine yD 3 6 rfl (q_ldo 1000 tNa60_PtS) fun v6 hv6 => ?_; cases hv6) <;> refine xD 4 7 rfl q_usd0 ?_ <;> refine xE 5 8 rfl q_move ?_ <;> refine xE 6 9 rfl (q_nilo 1000) ?_ <;> refine xE 7 10 rfl (q_fldo 1000 tFl62_1_PtS) ?_ <;> (refine yE 8 11 rfl (q_ldo 1000 tNa60_PtS) fun v11 hv11 => ?_; cases hv11) <;> refine xE 9 12 rfl (q_lennil (e := 5) (k := 1) tSl60_PtS) ?_ <;> (refine aD_one 10 (by kernel_rfl) ?_) <;> (refine aW_run rfl fun w9 M9 N9 DQ back => ?_) <;> refine xL 13 q_ustr0 ?_ <;> refine aL_end (back _ (nrm ?_)) <;> refine xE 11 2 rfl q_assign ?_ <;> refine aD_end (by kernel_rfl) (nav ?_) <;> try dsimp only)
 exact ret_h [] (Tryz.results35) rfl trivial ⟨rfl, rfl, rfl⟩
theorem AFh.imp {dd : Prop} {P : Program} {f : FuncId} {ar h : List (Nat × Ent)} {R R' : Value → PV → List (Nat × Ent) → Prop} (H : AFh dd P f ar h R) (h1 : ∀ v p h, R v p h → R' v p h) : AFh dd P f ar h R' := fun M N w F HF hv => (H M N w F HF hv).mono fun _ _ ⟨v', p, h', F', h3, h4, h5, h6⟩ => ⟨v', p, h', F', h3, h1 _ _ _ h4, h5, h6⟩
def ByI (p v : Value) (b : Nat) (bs : List UInt8) : Prop := (p = .pointer none ∨ p = ptr1 b) ∧ v.oneCell' = true ∧ (bs = [] → v = .slice none 0 0)
theorem tBStr_a (b : Nat) (p v : Value) (bs : List UInt8) (h : ByI p v b bs) : AFh False Tryz.prog 35 [(0, ptr1 b, .val (ptr1 b))] (ByH b p v bs) (fun u q h => u = .string (bst bs) ∧ q = pB bs ∧ h = []) := by
 by_cases h0 : bs = []
 · obtain rfl := h.2.2 h0
   subst h0
   exact AFh.imp (tBStr_0 b p) fun u q h ⟨h1, h2, h3⟩ => ⟨h1, by rw [h2, h1]; rfl, h3⟩
 · exact AFh.imp (tBStr_e b p v bs h0 h.2.1) fun u q h ⟨h1, h2, h3⟩ => ⟨h1, by rw [h2, h1]; rfl, h3⟩
theorem nmLiteral_e (b : Nat) (m : List UInt8) (n : Nat) (t : List UInt8) (hl : m.length ≤ 100000) (hok : litB m = .ok n t) : AFh False Tryz.prog 121 [(0, ptr1 b, .val (ptr1 b))] (NrH b (34 :: m) 1) (fun u q h => u = .tuple #[.string (bst t), .int .i64 0] ∧ q = .tup [pB t, pInt 0] ∧ h = NrH b (34 :: m) (1 + n)) := by
 have hlen : (34 :: m).length = m.length + 1 := rfl
 unfold NrH
 refine AFh.of_body 35 Tryz.func121 rfl Tryz.ntmps121 (Nat.le_of_ble_eq_true rfl) rfl ?_
 intro w0 M0 N0
 refine nav ?_
 (refine aC_region ?_ <;> refine xL 2 q_assign ?_ <;> refine xL 3 q_assign ?_ <;> refine aL_end (nav ?_) <;> try dsimp only)
 (refine aC_region ?_ <;> refine s_alloc1 [.pointer none, .slice none 0 0] 2 4 tZr62_PtS fun b4 => ?_ <;> refine aL_end (nav ?_) <;> try dsimp only)
 refine aC_ent (nilOwn 1001 5 1 rfl) fun _ => ?_
 refine aC_ent (relabel (l := 4) 1000 rfl rfl) fun _ => ?_
 refine aC_loop (ι := { q : Nat × (Value × Value) × List UInt8 // q.1 ≤ m.length ∧ litB m = ltAdd q.1 q.2.2 (litB (m.drop q.1)) ∧ ByI q.2.1.1 q.2.1.2 b4 q.2.2 ∧ q.2.2.length ≤ q.1 }) (fun k => ⟨[(0, _, _), (4, _, _)], [(1002, hdr1 b, .own 157 2 1 [pB (34 :: m), pInt ((1 + k.1.1 : Nat) : Int)]), (1000, hdr1 b4, .own 62 2 1 [.val k.1.2.1.1, .val k.1.2.1.2]), (1001, k.1.2.1.2, .own 5 1 k.1.2.2.length (k.1.2.2.map pByte))]⟩) (fun k => m.length - k.1.1) ⟨(0, (.pointer none, .slice none 0 0), []), Nat.zero_le _, by rw [List.drop_zero]; cases litB m <;> rfl, ⟨.inl rfl, rfl, fun _ => rfl⟩, Nat.le_refl _⟩ (fun a w H => H.weaken ⟨rfl, rfl, trivial⟩ ⟨rfl, rfl, rfl, trivial⟩) ?_
 rintro ⟨⟨k, ⟨bp, bv⟩, pre⟩, hk, hp, hby, hpl⟩
 dsimp only
 dsimp only at hk hp hby hpl; have hone : En.one (PV.val bv) = true := hby.2.1
 refine nav ?_
 (refine aC_region ?_ <;> refine xL 6 q_move ?_ <;> (refine aL_ch [1000, 1001] 7 (Tryz.call122) (nmMore_e b (34 :: m) (1 + k) (by omega)) ?_; rintro _ _ _ ⟨rfl, rfl, rfl⟩; dsimp only [NrH]) <;> refine aL_end (nav ?_) <;> try dsimp only)
 (first | refine cCd ?_ ?_ | refine cC ?_ ?_) <;> intro hb7
 · first
   | exact Bool.noConfusion hb7
   | (
    have hb7' : 1 + k < m.length + 1 := by simpa using hb7
    obtain ⟨c, hc⟩ := get_byte (l := m) (i := k) (by omega)
    have hcx : (34 :: m)[1 + k]? = some c := by rw [show 1 + k = k + 1 by omega]; exact hc
    have hd := drop_get hc
    rw [hd] at hp
    refine nav ?_
    (refine aC_region ?_ <;> refine xL 8 q_move ?_ <;> (refine aL_ch [1000, 1001] 9 (Tryz.call147) (nmNext_e b (34 :: m) (1 + k) c (by omega) hcx) ?_; rintro _ _ _ ⟨rfl, rfl, rfl⟩; dsimp only [NrH]) <;> refine xL 5 q_assign ?_ <;> refine aL_end (nav ?_) <;> try dsimp only)
    (refine aC_region ?_ <;> refine xL 11 q_move ?_ <;> refine xL 12 q_eql ?_ <;> refine xL 10 q_assign ?_ <;> refine aL_end (nav ?_) <;> try dsimp only)
    (first | refine cCd ?_ ?_ | refine cC ?_ ?_) <;> intro hb10
    · first
      | exact Bool.noConfusion hb10
      | (
       refine nav ?_
       (refine aC_region ?_ <;> (refine aL_ch [1002] 13 (Tryz.call35) (tBStr_a b4 bp bv pre hby) ?_; rintro _ _ _ ⟨rfl, rfl, rfl⟩) <;> refine xL 2 q_assign ?_ <;> refine xL 3 q_assign ?_ <;> refine aL_end (nav ?_) <;> try dsimp only)
       have he := lit_end (m := m.drop (k + 1)) hb10
       rw [he, hok] at hp
       simp only [ltAdd, List.append_nil, Lt.ok.injEq] at hp
       obtain ⟨rfl, rfl⟩ := hp
       refine ret_hss [(1002, hdr1 b, .own 157 2 1 [pB (34 :: m), pInt ((1 + k + 1 : Nat) : Int)])] (Tryz.results121) rfl rfl ⟨rfl, trivial⟩ ⟨rfl, rfl, ?_⟩
       rw [show 1 + (1 + k) = 1 + k + 1 by omega])
    · first
      | exact Bool.noConfusion hb10
      | (
       have hpr : ¬ ((c.toNat : Int) < 32 ∨ 126 < (c.toNat : Int)) := fun h => by
        rw [lit_bad hb10 h, hok] at hp; cases hp
       refine nav ?_
       (refine aC_region ?_ <;> refine xL 15 q_move ?_ <;> refine xL 16 q_eql ?_ <;> refine xL 17 q_move ?_ <;> (refine bLd 17 (fun hb17 => ?_) (fun hb17 => ?_) <;> (first | refine kL 18 ?_ | refine xL 18 q_move ?_)) <;> (first | refine kL 19 ?_ | refine kL 19 ?_ | (refine aL_ch [1000, 1001] 19 (Tryz.call122) (nmMore_e b (34 :: m) (1 + k + 1) (by omega)) ?_; rintro _ _ _ ⟨rfl, rfl, rfl⟩; dsimp only [NrH])) <;> (first | refine kL 20 ?_ | refine xL 20 q_not ?_) <;> refine xL 21 q_pick ?_ <;> refine xL 14 q_assign ?_ <;> refine aL_end (nav ?_) <;> try dsimp only) <;> (
        (first | refine cCd ?_ ?_ | refine cC ?_ ?_) <;> intro hb14
        · first
          | exact Bool.noConfusion hb14
          | (
           refine nav ?_
           (refine aC_region ?_ <;> refine xL 2 q_assign ?_ <;> refine xL 3 q_assign ?_ <;> refine aL_end (nav ?_) <;> try dsimp only)
           exfalso
           simp only [Bool.not_eq_true', decide_eq_false_iff_not] at *
           rw [drop_all (show m.length ≤ k + 1 by omega), lit_esc0 (by omega), hok] at hp
           cases hp)
        · first
          | exact Bool.noConfusion hb14
          | (
           refine nav ?_
           (refine aC_region ?_ <;> refine xL 23 q_move ?_ <;> refine xL 24 q_eql ?_ <;> refine xL 22 q_assign ?_ <;> refine aL_end (nav ?_) <;> try dsimp only)
           (first | refine cCd ?_ ?_ | refine cC ?_ ?_) <;> intro hb22
           · first
             | exact Bool.noConfusion hb22
             | (
              have hk1 : k + 1 < m.length := by
               rcases Nat.lt_or_ge (k + 1) m.length with h | h
               · exact h
               · rw [drop_all h, lit_esc0 hb22, hok] at hp; cases hp
              obtain ⟨d, hdc⟩ := get_byte hk1
              have hdx : (34 :: m)[1 + k + 1]? = some d := by rw [show 1 + k + 1 = k + 1 + 1 by omega]; exact hdc
              have hd2 := drop_get hdc
              rw [hd2] at hp
              refine nav ?_
              (refine aC_region ?_ <;> refine xL 25 q_move ?_ <;> (refine aL_ch [1000, 1001] 26 (Tryz.call147) (nmNext_e b (34 :: m) (1 + k + 1) d (by omega) hdx) ?_; rintro _ _ _ ⟨rfl, rfl, rfl⟩; dsimp only [NrH]) <;> refine xL 5 q_assign ?_ <;> refine aL_end (nav ?_) <;> try dsimp only)
              (refine aC_region ?_ <;> refine xL 27 q_move ?_ <;> refine xL 28 q_neq ?_ <;> refine xL 29 q_move ?_ <;> (refine bLd 29 (fun hb29 => ?_) (fun hb29 => ?_) <;> (first | refine kL 30 ?_ | refine xL 30 q_move ?_)) <;> (first | refine kL 31 ?_ | refine xL 31 q_neq ?_) <;> refine xL 32 q_pick ?_ <;> refine aL_end (nav ?_) <;> try dsimp only) <;> (
               (first | refine cCd ?_ ?_ | refine cC ?_ ?_) <;> intro hb32
               · first
                 | exact Bool.noConfusion hb32
                 | (
                  refine nav ?_
                  (refine aC_region ?_ <;> refine xL 2 q_assign ?_ <;> refine xL 3 q_assign ?_ <;> refine aL_end (nav ?_) <;> try dsimp only)
                  exfalso
                  rw [lit_escn hb22 (by omega) (by omega), hok] at hp
                  cases hp)
               · first
                 | exact Bool.noConfusion hb32
                 | (
                  rw [lit_esc hb22 (by omega), ltAdd_add] at hp
                  refine nav ?_
                  (refine aC_region ?_ <;> refine xL 33 q_move ?_ <;> (first | (refine aL_ch [1002] 34 (Tryz.call148) (tWriteB_e b4 bp bv pre d hby.1 hby.2.1 (by omega)) (fun v34 p34 h34 hR34 => ?_); obtain ⟨w2, hw2, rfl⟩ := hR34; dsimp only [ByH]) | (refine aL_ch [1002] 34 (Tryz.call148) (tWriteB_e b4 bp bv pre c hby.1 hby.2.1 (by omega)) (fun v34 p34 h34 hR34 => ?_); obtain ⟨w2, hw2, rfl⟩ := hR34; dsimp only [ByH])) <;> refine aL_end (nav ?_) <;> try dsimp only)
                  first
                   | (exact aN_again (
                       ⟨(k + 2, (ptr1 b4, w2), pre ++ [d]), by dsimp only; omega, hp, ⟨.inr rfl, hw2, fun h => by simp at h⟩, by simp only [List.length_append, List.length_cons, List.length_nil]; omega⟩
                       ) (by dsimp only; omega) ⟨rfl, rfl, trivial⟩ ⟨rfl, rfl, rfl, trivial⟩)
                   | (exact aN_again (
                       ⟨(k + 1, (ptr1 b4, w2), pre ++ [c]), by dsimp only; omega, hp, ⟨.inr rfl, hw2, fun h => by simp at h⟩, by simp only [List.length_append, List.length_cons, List.length_nil]; omega⟩
                       ) (by dsimp only; omega) ⟨rfl, rfl, trivial⟩ ⟨rfl, rfl, rfl, trivial⟩))))
           · first
             | exact Bool.noConfusion hb22
             | (
              rw [lit_plain hb10 (by omega) (by omega) hb22, ltAdd_add] at hp
              refine nav ?_
              (refine aC_region ?_ <;> refine xL 33 q_move ?_ <;> (first | (refine aL_ch [1002] 34 (Tryz.call148) (tWriteB_e b4 bp bv pre d hby.1 hby.2.1 (by omega)) (fun v34 p34 h34 hR34 => ?_); obtain ⟨w2, hw2, rfl⟩ := hR34; dsimp only [ByH]) | (refine aL_ch [1002] 34 (Tryz.call148) (tWriteB_e b4 bp bv pre c hby.1 hby.2.1 (by omega)) (fun v34 p34 h34 hR34 => ?_); obtain ⟨w2, hw2, rfl⟩ := hR34; dsimp only [ByH])) <;> refine aL_end (nav ?_) <;> try dsimp only)
              first
               | (exact aN_again (
                   ⟨(k + 2, (ptr1 b4, w2), pre ++ [d]), by dsimp only; omega, hp, ⟨.inr rfl, hw2, fun h => by simp at h⟩, by simp only [List.length_append, List.length_cons, List.length_nil]; omega⟩
                   ) (by dsimp only; omega) ⟨rfl, rfl, trivial⟩ ⟨rfl, rfl, rfl, trivial⟩)
               | (exact aN_again (
                   ⟨(k + 1, (ptr1 b4, w2), pre ++ [c]), by dsimp only; omega, hp, ⟨.inr rfl, hw2, fun h => by simp at h⟩, by simp only [List.length_append, List.length_cons, List.length_nil]; omega⟩
                   ) (by dsimp only; omega) ⟨rfl, rfl, trivial⟩ ⟨rfl, rfl, rfl, trivial⟩))))))
 · first
   | exact Bool.noConfusion hb7
   | (
    refine nav ?_
    (refine aC_region ?_ <;> refine xL 2 q_assign ?_ <;> refine xL 3 q_assign ?_ <;> refine aL_end (nav ?_) <;> try dsimp only)
    exfalso
    have hb7' : ¬ 1 + k < m.length + 1 := by simpa using hb7
    rw [drop_all (by omega), hok] at hp
    cases hp)
end Go.Proofs.YtbfilfhgcihhoaaGreatDoor
namespace Go.En
open Go.RowKit Go.Cb
set_option linter.all false
section
variable {P : Program} {c : Ctx} {ops : Array Oper} {Q : Exit → Act → World → Prop} {rest : List Oper} {sL hP : List (Nat × Ent)} {o : Oper}
theorem s_boxa1 {t : TypeId} {x : Operand} {v : Value} {ps : List PV} (d : Nat) (m : Nat) (k : ∀ b : Nat, aL P c ops Q rest ⟨put d (ptr1 b, .val (ptr1 b)) sL, put d (hdr1 b, .own t m 1 ps) hP⟩) (hw : wants ops sL o = some true := by exact rfl) (hd : o.dst = some d := by exact rfl) (hn : d < c.nt := by exact Nat.le_of_ble_eq_true rfl) (ho : o.op = .box t x := by exact rfl) (hx : ev sL x = some (v, .agg ps) := by exact rfl) (hm : ps.length = m := by exact rfl) (hl : lk hP d = none := by exact rfl) : aL P c ops Q (o :: rest) (⟨sL, hP⟩ : St) :=
 aL_run hw fun a w F H => by
  obtain ⟨hv, hS⟩ := H.rd.ev hx
  cases hS with
  | agg vs ps hlen hT =>
    obtain ⟨F', H'⟩ := alloc_holds (e := t) (k := m) (n := 1) (cap := 1) (cur := vs.toArray) (v := .pointer (some ⟨w.heap.size, 0, none⟩)) H hl hn (vs := vs) (ps := ps) hlen hT (by omega) (Nat.le_refl _) (by unfold maxLen; omega) (by simp; omega) (List.take_of_length_le (by simp; omega))
    unfold Oper.wp execOp
    simp [ho, hv, Instr.box, newVar, newRow, newObj, Sem.run, Value.cells, hd, Oper.upon]
    exact k w.heap.size _ _ ⟨F', H'⟩
end
section
variable {P : Program} {st : St} {o : Oper} {x y : Operand} {q q' : PV} {t t' : TypeId}
theorem q_ifnil (hu : P.underlying t = some (.interface (P.methodsAt t))) (ho : o.op = .binOp .neq t x (.const .nilIface) t' := by exact rfl) (hx : ev st.slots x = some (.nilIface, q) := by exact rfl) : YE P st o (· = .bool false) (.val (.bool false)) :=
 y2 hx (show ev st.slots (.const .nilIface) = some (.nilIface, .val .nilIface) from rfl) fun ρ w h3 h4 => by
  have := run_neq_nil_nil w t hu
  simp [execOp, ho, h3, h4, eqGuard_nil_constR, this]
theorem q_ifsome {u : TypeId} {v : Value} (hu : P.underlying t = some (.interface (P.methodsAt t))) (ho : o.op = .binOp .neq t x y t' := by exact rfl) (hx : ev st.slots x = some (.iface u v, q) := by exact rfl) (hy : ev st.slots y = some (.nilIface, q') := by exact rfl) : YE P st o (· = .bool true) (.val (.bool true)) :=
 y2 hx hy fun ρ w h3 h4 => by
  have := run_neq_held_nil w t u v hu
  simp only [execOp, ho, h3, h4]
  cases y <;> simp [eqGuard, this]
theorem q_fldp {s f fo j b : Nat} {x : Operand} (hT : FldT P s f fo = true) (ho : o.op = .fieldAddr s x f := by exact rfl) (hx : ev st.slots x = some (padd (sbase (hdr1 b)) j, q) := by exact rfl) : YE P st o (· = padd (sbase (hdr1 b)) (j + fo)) (.val (padd (sbase (hdr1 b)) (j + fo))) :=
 .exact fun M F a w H => by
  have hv := (H.ev hx).1
  refine ⟨.val _, ?_⟩
  simp only [hdr1, sbase, padd] at hv ⊢
  simp [execOp, ho, hv, FldT.run hT, Nat.add_assoc]
theorem AF.of_same {f : FuncId} {us : List Value} {v : Value} (h : ∀ w, Calls P f us.toArray w fun e w' => e = .returned v ∧ w' = w) : AF P f (us.map .val) (· = .val v) := fun M w vs hM hl hv => by
 have hvs : vs = us := by
  rw [List.length_map] at hl
  refine List.ext_getElem? fun i => ?_
  cases h1 : vs[i]? with
  | none =>
    have := List.getElem?_eq_none_iff.1 h1
    rw [List.getElem?_eq_none (by omega)]
  | some a =>
    have hi := lt_of_get h1
    have h2 : us[i]? = some (us[i]'(by omega)) := List.getElem?_eq_getElem (by omega)
    have h3 := hv i a (.val (us[i]'(by omega))) h1 (by rw [List.getElem?_map, h2]; rfl)
    rw [h2]
    cases h3; rfl
 subst hvs
 refine (h w).mono fun e w' ⟨h1, h2⟩ => ?_
 subst h1 h2
 exact ⟨v, .val v, fun _ => False, rfl, rfl, Ext.rfl' _, .shr (.val _) (fun _ h => h), fun _ h => h.elim, fun h => h.elim⟩
end
inductive ResR (P : Program) (sL hP : List (Nat × Ent)) : ResultVar → PV → Prop
 | tmp {t : Nat} {v : Value} {p : PV} (ht : lk sL t = some (v, p)) : ResR P sL hP (.tmp t) p
 | cell {t ty k e k' n : Nat} {h : Value} {q : PV} {cs : List PV} (l : Nat) (hT : AggT P ty k = true) (ht : lk sL t = some (padd (sbase h) 0, q)) (hl : lk hP l = some (h, .own e k' n cs)) (hp : k ≤ cs.length) (hk : 0 < k) (hsh : (cs.take k).all isSh = true) : ResR P sL hP (.cell t ty) (.agg (cs.take k))
 | cell1 {t ty e k' n : Nat} {h : Value} {q p : PV} {cs : List PV} (l : Nat) (hT : NoAgg P ty = true) (ht : lk sL t = some (padd (sbase h) 0, q)) (hl : lk hP l = some (h, .own e k' n cs)) (hp : cs[0]? = some p) (hsh : isSh p = true) : ResR P sL hP (.cell t ty) p
def resM (tmps : Array Value) : ResultVar → Sem Value
 | .tmp t => pure (tmps.getD t undef)
 | .cell a t => do loadVar t (← asAddr (tmps.getD a undef))
section
variable {P : Program} {c : Ctx} {sL hP : List (Nat × Ent)}
theorem cell_run1 {F : Nat → BS} {a : Act} {w : World} (H : HoldsF c (⟨sL, hP⟩ : St) F a w) {t ty l e k' n : Nat} {h : Value} {q p : PV} {cs : List PV} (hT : NoAgg P ty = true) (ht : lk sL t = some (padd (sbase h) 0, q)) (hl : lk hP l = some (h, .own e k' n cs)) (hp : cs[0]? = some p) (hsh : isSh p = true) :
 ∃ V A, (asAddr (a.tmps.getD t undef)).run P w = .ok A w ∧ (loadVar ty A).run P w = .ok V w ∧ Shr (mof c hP F) w V p := by
 have hv := (H.sl t _ _ ht).1
 obtain ⟨xs, Fs, hrow, hlen, hTr, hd, hb, hF'⟩ := (H.tr l _ _ hl).row
 have hj := lt_of_get hp
 rcases row_form hrow with ⟨_, _, rfl⟩ | ⟨g, cap, rfl, h1, h2, h3⟩
 · simp at hlen; rw [hlen] at hj; simp at hj
 obtain ⟨y, hy⟩ := get_of_len hp hlen
 have hS := (hTr 0 y p hy hp).sh hsh
 refine ⟨y, ⟨g, 0, none⟩, ?_, ?_, hS⟩
 · simp only [sbase, padd, Nat.zero_add] at hv
   simp [Array.getD_eq_getD_getElem?, hv, asAddr]
 · have := row_cell hrow hy
   simp [loadVar, NoAgg.run hT, load, Sem.run, this]
theorem ResR.run {r : ResultVar} {p : PV} {F : Nat → BS} {a : Act} {w : World} (hr : ResR P sL hP r p) (H : HoldsF c (⟨sL, hP⟩ : St) F a w) : ∃ V, (resM a.tmps r).run P w = .ok V w ∧ Shr (mof c hP F) w V p := by
 cases hr with
 | tmp ht =>
   obtain ⟨h1, h2⟩ := H.sl _ _ _ ht
   exact ⟨_, by simp [resM, Array.getD_eq_getD_getElem?, h1], h2⟩
 | cell l hT ht hl hp hk hsh =>
   obtain ⟨V, A, h0, h1, h2⟩ := cell_run H hT ht hl hp hk hsh
   exact ⟨V, by simp only [Array.getD_eq_getD_getElem?] at h0; simp [resM, h0, h1], h2⟩
 | cell1 l hT ht hl hp hsh =>
   obtain ⟨V, A, h0, h1, h2⟩ := cell_run1 H hT ht hl hp hsh
   exact ⟨V, by simp only [Array.getD_eq_getD_getElem?] at h0; simp [resM, h0, h1], h2⟩
theorem results_eq (fn : Func) (tmps : Array Value) : results fn tmps = (do let vs ← fn.results.mapM (resM tmps); pure (if h : vs.size = 1 then vs[0] else Value.tuple vs)) := by
 unfold results
 congr 1
theorem results3 {fn : Func} {r0 r1 r2 : ResultVar} {tmps : Array Value} {w : World} {V0 V1 V2 : Value} (hr : fn.results = #[r0, r1, r2]) (h0 : (resM tmps r0).run P w = .ok V0 w) (h1 : (resM tmps r1).run P w = .ok V1 w) (h2 : (resM tmps r2).run P w = .ok V2 w) : (results fn tmps).run P w = .ok (.tuple #[V0, V1, V2]) w := by
 rw [results_eq, hr]
 simp [h0, h1, h2]
theorem shr3 {M : BS} {w : World} {V0 V1 V2 : Value} {p0 p1 p2 : PV} (h0 : Shr M w V0 p0) (h1 : Shr M w V1 p1) (h2 : Shr M w V2 p2) : Shr M w (.tuple #[V0, V1, V2]) (.tup [p0, p1, p2]) := .tup [V0, V1, V2] _ rfl fun i v q hv hq => by
 match i with
 | 0 => cases hv; cases hq; exact h0
 | 1 => cases hv; cases hq; exact h1
 | 2 => cases hv; cases hq; exact h2
 | i + 3 => simp at hv
theorem mof_sub {F : Nat → BS} {H' : List (Nat × Ent)} (hsub : Sub H' hP) (b : Nat) (hb : mof c H' F b) : mof c hP F b := by
 rcases hb with hb | ⟨l, x, h1, h2⟩
 · exact .inl hb
 · exact .inr ⟨l, x, hsub.lk h1, h2⟩
theorem ret_h3 {fn : Func} {R : Value → PV → List (Nat × Ent) → Prop} {r0 r1 r2 : ResultVar} {p0 p1 p2 : PV} (H' : List (Nat × Ent)) (hr : fn.results = #[r0, r1, r2]) (h0 : ResR P sL hP r0 p0) (h1 : ResR P sL hP r1 p1) (h2 : ResR P sL hP r2 p2) (hsub : Sub H' hP) (hR : ∀ V V1 V2 : Value, vOf p1 V1 → vOf p2 V2 → R (.tuple #[V, V1, V2]) (.tup [p0, p1, p2]) H') (hdf : c.df = [] := by exact rfl) : aR c (bodyPost P fn (RetH c R)) (⟨sL, hP⟩ : St) := fun a w ⟨F, H⟩ => by
 obtain ⟨V0, g0, s0⟩ := h0.run H
 obtain ⟨V1, g1, s1⟩ := h1.run H
 obtain ⟨V2, g2, s2⟩ := h2.run H
 have H2 : HoldsF c (⟨sL, H'⟩ : St) F a w := H.less (fun _ _ h => h) fun t x hx => hsub.lk hx
 exact ⟨H.df.trans hdf, .tuple #[V0, V1, V2], results3 hr g0 g1 g2, _, _, H', F, rfl, hR _ _ _ s1.vOf s2.vOf, H2.toHeapF, (shr3 s0 s1 s2).anti fun b _ hb => mof_sub hsub b hb⟩
theorem ret_3 {fn : Func} {R : PV → Prop} {r0 r1 r2 : ResultVar} {p0 p1 p2 : PV} (hr : fn.results = #[r0, r1, r2]) (h0 : ResR P sL hP r0 p0) (h1 : ResR P sL hP r1 p1) (h2 : ResR P sL hP r2 p2) (hR : R (.tup [p0, p1, p2])) (hN : ∀ b, ¬ c.N0 b := by intro _ h; exact h) (hdf : c.df = [] := by exact rfl) : aR c (bodyPost P fn (RetAF c R)) (⟨sL, hP⟩ : St) := fun a w ⟨F, H⟩ => by
 obtain ⟨V0, g0, s0⟩ := h0.run H
 obtain ⟨V1, g1, s1⟩ := h1.run H
 obtain ⟨V2, g2, s2⟩ := h2.run H
 refine ⟨H.df.trans hdf, .tuple #[V0, V1, V2], results3 hr g0 g1 g2, _, _, fun _ => False, rfl, hR, H.ext.ext (fun b _ => hN b), .shr ((shr3 s0 s1 s2).anti fun b _ hb => ?_) (fun _ h => h), fun _ h => h.elim, H.dw⟩
 rcases hb with hb | hb
 · exact .inl hb
 · exact hb.elim
end
end Go.En
namespace Go.Proofs.YtbfilfhgcihhoaaGreatDoor
open Go.RowKit Go.Cb Go.En
set_option linter.all false
set_option maxRecDepth 100000
theorem tFl99_0_PtT : FldT Tryz.prog 99 0 0 = true := by kernel_rfl
theorem tNa9_PtT : NoAgg Tryz.prog 9 = true := by kernel_rfl
theorem tSt157_PtT : stInfo Tryz.prog 157 = some ((.agg #[(.string ByteArray.empty), (.int .i64 0)]), ([0, 1] : List Nat).map fun o => (o, 1)) := by kernel_rfl
theorem lit_prn : ∀ (m : List UInt8) {n : Nat} {t : List UInt8}, litB m = .ok n t → prnB (m.take n) = true
 | [], n, t, h => by simp [litB] at h
 | [c], n, t, h => by
   rw [litB.eq_def] at h
   simp only at h
   split at h
   · rename_i h34; cases h; simp [prnB, h34]
   · split at h
     · cases h
     · split at h
       · cases h
       · simp [litB] at h
 | c :: d :: m, n, t, h => by
   rw [litB.eq_def] at h
   simp only at h
   split at h
   · rename_i h34; cases h; simp [prnB, h34]
   · split at h
     · cases h
     · rename_i hr
       split at h
       · rename_i h92
         split at h
         · rename_i hd
           cases h2 : litB m with
           | err e => rw [h2] at h; cases h
           | ok n2 t2 =>
             rw [h2] at h; cases h
             have := lit_prn m h2
             unfold prnB at this ⊢
             rw [show n2 + 2 = n2 + 1 + 1 from rfl, List.take_succ_cons, List.take_succ_cons, List.all_cons, List.all_cons, this]
             simp only [Bool.and_true, Bool.and_eq_true, decide_eq_true_eq]
             omega
         · cases h
       · cases h2 : litB (d :: m) with
         | err e => rw [h2] at h; cases h
         | ok n2 t2 =>
           rw [h2] at h; cases h
           have := lit_prn (d :: m) h2
           unfold prnB at this ⊢
           rw [List.take_succ_cons, List.all_cons, this]
           simp only [Bool.and_true, Bool.and_eq_true, decide_eq_true_eq]
           omega
theorem nmUnquote_e (m : List UInt8) (t : List UInt8) (hl : m.length ≤ 16384) (hok : litB m = .ok m.length t) : AF Tryz.prog 84 [pB (34 :: m)] (· = .tup [pB t, pInt 0]) := by
 have hsz := bst_size (34 :: m)
 have hlen : (34 :: m).length = m.length + 1 := rfl
 have htl := litB_len m hok
 have htz := bst_size t
 have hp1 : prnB (34 :: m) = true := by
  have := lit_prn m hok
  rw [List.take_length] at this
  unfold prnB at this ⊢
  rw [List.all_cons, this]; rfl
 have hpre : [34].isPrefixOf (34 :: m) = true := by simp [List.isPrefixOf]
 refine AF.of_body 38 Tryz.func84 rfl Tryz.ntmps84 (Nat.le_of_ble_eq_true rfl) ?_
 intro w0 M0 vs hl hv
 obtain ⟨v0, rfl⟩ := len1 hl
 obtain rfl := hv 0 _ _ rfl rfl
 clear hl hv
 refine nav ?_
 (refine aC_region ?_ <;> refine xL 2 q_assign ?_ <;> refine xL 3 q_assign ?_ <;> refine aL_end (nav ?_) <;> try dsimp only)
 (refine aC_region ?_ <;> refine xL 7 q_move ?_ <;> refine xL 8 (q_slen Tryz.underlying9) ?_ <;> refine xL 9 q_gtr ?_ <;> refine aL_end (nav ?_) <;> try dsimp only)
 (first | refine cCd ?_ ?_ | refine cC ?_ ?_) <;> intro hb9
 · first
   | exact Bool.noConfusion hb9
   | (
    refine nav ?_
    (refine aC_region ?_ <;> refine xL 2 q_assign ?_ <;> refine xL 3 q_assign ?_ <;> refine aL_end (nav ?_) <;> try dsimp only)
    exfalso; first | omega | (simp at *; done) | (simp at *; omega))
 · first
   | exact Bool.noConfusion hb9
   | (
    refine nav ?_
    (refine aC_region ?_ <;> refine xL 10 q_move ?_ <;> (refine cS 11 (cA (Tryz.call119) (strPrefix_e (34 :: m) [34] (by omega) (by decide))) fun v11 hv11 => ?_; cases hv11; rw [hpre]) <;> refine xL 12 q_not ?_ <;> refine xL 13 q_move ?_ <;> refine xL 14 q_move ?_ <;> (refine cS 15 (cA (Tryz.call120) (nmPrintable_e (34 :: m) (by omega))) fun v15 hv15 => ?_; cases hv15; rw [hp1]) <;> refine xL 16 q_not ?_ <;> refine xL 17 q_pick ?_ <;> refine aL_end (nav ?_) <;> try dsimp only) <;> (
     (first | refine cCd ?_ ?_ | refine cC ?_ ?_) <;> intro hb17
     · first
       | exact Bool.noConfusion hb17
       | (
        refine nav ?_
        (refine aC_region ?_ <;> refine xL 2 q_assign ?_ <;> refine xL 3 q_assign ?_ <;> refine aL_end (nav ?_) <;> try dsimp only)
        exfalso; first | omega | (simp at *; done) | (simp at *; omega))
     · first
       | exact Bool.noConfusion hb17
       | (
        refine nav ?_
        (refine aC_region ?_ <;> refine xL 18 q_move ?_ <;> refine xL 19 (q_build tSt157_PtT) ?_ <;> refine s_boxa1 20 2 fun b20 => ?_ <;> refine xL 4 q_assign ?_ <;> refine aL_end (nav ?_) <;> try dsimp only)
        refine aC_ent (relabel (l := 20) 1002 rfl rfl) fun _ => ?_
        (refine aC_region ?_ <;> refine xL 22 q_move ?_ <;> (refine aL_ch [] 23 (Tryz.call121) (nmLiteral_e b20 m m.length t (by omega) hok) ?_; rintro _ _ _ ⟨rfl, rfl, rfl⟩; dsimp only [NrH]) <;> refine xL 21 q_move ?_ <;> refine xL 24 q_extract ?_ <;> refine xL 25 q_extract ?_ <;> refine xL 5 q_assign ?_ <;> refine xL 6 q_assign ?_ <;> refine aL_end (nav ?_) <;> try dsimp only)
        (refine aC_region ?_ <;> refine xL 27 q_move ?_ <;> refine xL 28 q_neq ?_ <;> refine xL 26 q_assign ?_ <;> refine aL_end (nav ?_) <;> try dsimp only)
        (first | refine cCd ?_ ?_ | refine cC ?_ ?_) <;> intro hb26
        · first
          | exact Bool.noConfusion hb26
          | (
           refine nav ?_
           (refine aC_region ?_ <;> refine xL 29 q_move ?_ <;> refine xL 2 q_assign ?_ <;> refine xL 3 q_assign ?_ <;> refine aL_end (nav ?_) <;> try dsimp only)
           exfalso; first | omega | (simp at *; done) | (simp at *; omega))
        · first
          | exact Bool.noConfusion hb26
          | (
           refine nav ?_
           (refine aC_region ?_ <;> refine xL 31 q_move ?_ <;> (refine aL_ch [] 32 (Tryz.call122) (nmMore_e b20 (34 :: m) (1 + m.length) (by omega)) ?_; rintro _ _ _ ⟨rfl, rfl, rfl⟩; dsimp only [NrH]) <;> refine xL 30 q_assign ?_ <;> refine aL_end (nav ?_) <;> try dsimp only)
           (first | refine cCd ?_ ?_ | refine cC ?_ ?_) <;> intro hb30
           · first
             | exact Bool.noConfusion hb30
             | (
              refine nav ?_
              (refine aC_region ?_ <;> refine xL 2 q_assign ?_ <;> refine xL 3 q_assign ?_ <;> refine aL_end (nav ?_) <;> try dsimp only)
              exfalso; first | omega | (simp at *; done) | (simp at *; omega))
           · first
             | exact Bool.noConfusion hb30
             | (
              refine nav ?_
              (refine aC_region ?_ <;> refine xL 34 q_move ?_ <;> refine xL 35 (q_slen Tryz.underlying9) ?_ <;> refine xL 36 q_gtr ?_ <;> refine xL 33 q_assign ?_ <;> refine aL_end (nav ?_) <;> try dsimp only)
              (first | refine cCd ?_ ?_ | refine cC ?_ ?_) <;> intro hb33
              · first
                | exact Bool.noConfusion hb33
                | (
                 refine nav ?_
                 (refine aC_region ?_ <;> refine xL 2 q_assign ?_ <;> refine xL 3 q_assign ?_ <;> refine aL_end (nav ?_) <;> try dsimp only)
                 exfalso; first | omega | (simp at *; done) | (simp at *; omega))
              · first
                | exact Bool.noConfusion hb33
                | (
                 refine nav ?_
                 (refine aC_region ?_ <;> refine xL 37 q_move ?_ <;> refine xL 2 q_assign ?_ <;> refine xL 3 q_assign ?_ <;> refine aL_end (nav ?_) <;> try dsimp only)
                 exact ret_ss (Tryz.results84) rfl rfl rfl))))))
theorem strIndex_e (l : List UInt8) : AF Tryz.prog 77 [pB l, pStr ⟨#[10]⟩] (· = pInt (Lib.indexByte l 10)) := by
 have := AF.of_same (P := Tryz.prog) (f := 77) (us := [.string (bst l), .string ⟨#[10]⟩]) (v := .int .i64 (Lib.indexByte l 10)) fun w => by
  have := Tryz.strings_Index_one (bst l) 10 w
  rw [bst_list] at this
  exact this
 exact this
theorem blk_com : ∀ (m : List UInt8) (i : Int), Lib.indexByte m 10 = i → (i < 0 → blkN true m = m.length) ∧ (0 ≤ i → i.toNat ≤ m.length ∧ blkN true m = i.toNat + blkN false (m.drop i.toNat))
 | [], i, h => by
   rw [Lib.indexByte] at h
   exact ⟨fun _ => rfl, fun h0 => by omega⟩
 | c :: m, i, h => by
   rw [Lib.indexByte] at h
   by_cases hc : c = 10
   · subst hc
     rw [if_pos (by simp)] at h
     subst h
     refine ⟨fun h0 => by omega, fun _ => ⟨Nat.zero_le _, ?_⟩⟩
     rw [Int.toNat_zero, List.drop_zero, blkN, blkN, if_pos (by decide)]
     simp
   · rw [if_neg (by simpa using hc)] at h
     have hn : ((c.toNat != 10)) = true := by
      rw [bne_iff_ne]
      intro h0
      exact hc (UInt8.toNat_inj.1 h0)
     have hge := Lib.indexByte_ge m 10
     obtain ⟨h1, h2⟩ := blk_com m _ rfl
     rw [blkN, hn, List.length_cons]
     split at h
     · rename_i hlt
       rw [beq_iff_eq] at hlt
       subst h
       refine ⟨fun _ => by rw [h1 (by omega)]; omega, fun h0 => by omega⟩
     · rename_i hlt
       rw [beq_iff_eq] at hlt
       subst h
       obtain ⟨h3, h4⟩ := h2 (by omega)
       refine ⟨fun h0 => by omega, fun _ => ?_⟩
       have e : (Lib.indexByte m 10 + 1).toNat = (Lib.indexByte m 10).toNat + 1 := by omega
       rw [e, List.drop_succ_cons, h4]
       exact ⟨by omega, by omega⟩
theorem bst_empty (l : List UInt8) : ((bst l).toList == ByteArray.toList { data := #[] }) = decide (l = []) := bst_eq l []
theorem advs_app (p : Int × Int) (l : List UInt8) (n k : Nat) : advs (advs p (l.take n)) ((l.drop n).take k) = advs p (l.take (n + k)) := advs_add p l n k
theorem tkBlanks_e (b : Nat) (l : List UInt8) (p : Int × Int) (hl : l.length ≤ 100000) (h1 : 0 ≤ p.1) (h2 : 0 ≤ p.2) (h3 : p.1 ≤ 100000) (h4 : p.2 ≤ 100000) : AFh False Tryz.prog 57 [(0, ptr1 b, .val (ptr1 b))] (RdH b l p) (fun _ _ h => h = RdH b (l.drop (blkN false l)) (advs p (l.take (blkN false l)))) := by
 unfold RdH
 refine AFh.of_body 37 Tryz.func57 rfl Tryz.ntmps57 (Nat.le_of_ble_eq_true rfl) rfl ?_
 intro w0 M0 N0
 refine nav ?_
 refine aC_loop (ι := { n : Nat // n ≤ l.length ∧ n + blkN false (l.drop n) = blkN false l }) (fun k => ⟨[(0, _, _)], [(1000, hdr1 b, .own 99 3 1 [pB (l.drop k.1), pInt (advs p (l.take k.1)).1, pInt (advs p (l.take k.1)).2])]⟩) (fun k => l.length - k.1) ⟨0, Nat.zero_le _, by rw [List.drop_zero]; omega⟩ (fun a w H => H.weaken ⟨rfl, trivial⟩ ⟨rfl, trivial⟩) ?_
 rintro ⟨n, hn, hb⟩
 dsimp only
 try dsimp only at hn hb
 have hbd := adv_bd h1 h2 (l.take n)
 rw [List.length_take] at hbd
 have hdl : (l.drop n).length = l.length - n := List.length_drop ..
 have hsk : ∀ k, k ≤ (l.drop n).length → AFh False Tryz.prog 59 [(0, ptr1 b, .val (ptr1 b)), (1, .int .i64 k, pInt k)] (RdH b (l.drop n) (advs p (l.take n))) (fun _ _ h => h = RdH b (l.drop (n + k)) (advs p (l.take (n + k)))) := fun k hk => by
  have := tkSkip_e b (l.drop n) (advs p (l.take n)) k hk (by omega) hbd.1 hbd.2.1 (by omega) (by omega)
  rw [List.drop_drop, advs_app] at this
  exact this
 refine nav ?_
 (refine aC_region ?_ <;> refine xL 3 q_move ?_ <;> refine xL 4 (q_nilo 1000) ?_ <;> refine xL 5 (q_fldo 1000 tFl99_0_PtT) ?_ <;> (refine yL 6 (q_ldo 1000 tNa9_PtT) fun v6 hv6 => ?_; cases hv6) <;> refine xL 7 q_sneq ?_ <;> refine aL_end (nav ?_) <;> try dsimp only)
 (first | refine cCd ?_ ?_ | refine cC ?_ ?_) <;> intro hb7
 · first
   | exact Bool.noConfusion hb7
   | (
    have hne : l.drop n ≠ [] := by
     intro h
     rw [bst_empty, h] at hb7
     simp at hb7
    clear hb7
    obtain ⟨c, m, hcm⟩ := List.exists_cons_of_ne_nil hne
    have hc0 : (bst (l.drop n)).data[(0 : Int).toNat]? = some c := by rw [bst_get, hcm]; rfl
    have hml : (l.drop n).length = m.length + 1 := by rw [hcm]; rfl
    rw [hcm] at hb
    refine nav ?_
    (refine aC_region ?_ <;> refine xL 8 q_move ?_ <;> refine xL 9 (q_nilo 1000) ?_ <;> refine xL 10 (q_fldo 1000 tFl99_0_PtT) ?_ <;> (refine yL 11 (q_ldo 1000 tNa9_PtT) fun v11 hv11 => ?_; cases hv11) <;> refine xL 12 (q_index Tryz.underlying9 rfl rfl rfl (by omega) hc0) ?_ <;> refine aL_end (nav ?_) <;> try dsimp only)
    (refine aC_region ?_ <;> refine xL 14 q_eql ?_ <;> refine xL 13 q_assign ?_ <;> refine aL_end (nav ?_) <;> try dsimp only)
    (first | refine cCd ?_ ?_ | refine cC ?_ ?_) <;> intro hb13
    · first
      | exact Bool.noConfusion hb13
      | (
       refine nav ?_
       (first | refine cCd ?_ ?_ | refine cC ?_ ?_) <;> intro hb13
       · first
         | exact Bool.noConfusion hb13
         | (
          refine nav ?_
          have hbl : isBB c = true := by
           unfold isBB
           simp only [Bool.or_eq_true, beq_iff_eq]
           omega
          rw [blkN, if_pos hbl] at hb
          have hdm : l.drop (n + 1) = m := by rw [← List.drop_drop, hcm]; rfl
          (refine aC_region ?_ <;> refine xL 18 q_move ?_ <;> (refine aL_ch [] 19 (Tryz.call59) (hsk 1 (by omega)) (fun v19 p19 h19 hR19 => ?_); subst hR19; dsimp only [RdH]) <;> refine aL_end (nav ?_) <;> try dsimp only)
          first
           | (exact aN_again (
               ⟨n + 1, by omega, by rw [hdm]; omega⟩
               ) (by dsimp only; omega) ⟨rfl, trivial⟩ ⟨rfl, trivial⟩)
           | (exact aN_again (
               ⟨n + j, by omega, by omega⟩
               ) (by dsimp only; omega) ⟨rfl, trivial⟩ ⟨rfl, trivial⟩))
       · first
         | exact Bool.noConfusion hb13
         | (
          refine nav ?_
          (refine aC_region ?_ <;> refine xL 21 q_eql ?_ <;> refine xL 20 q_assign ?_ <;> refine aL_end (nav ?_) <;> try dsimp only)
          (first | refine cCd ?_ ?_ | refine cC ?_ ?_) <;> intro hb20
          · first
            | exact Bool.noConfusion hb20
            | (
             refine nav ?_
             have hnb : isBB c = false := by
              unfold isBB
              simp only [Bool.or_eq_false_iff, beq_eq_false_iff_ne]
              omega
             obtain ⟨hi1, hi2⟩ := blk_com (c :: m) _ rfl
             rw [blkN, if_neg (by rw [hnb]; exact Bool.false_ne_true), if_pos (by omega)] at hb
             have hct : blkN true (c :: m) = 1 + blkN true m := by
              rw [blkN, show (c.toNat != 10) = true by rw [bne_iff_ne]; omega]
             rw [hct] at hi1 hi2
             have hne0 : Lib.indexByte (c :: m) 10 ≠ 0 := by
              have hge := Lib.indexByte_ge m 10
              rw [Lib.indexByte, if_neg (by rw [beq_iff_eq]; intro h; subst h; exact absurd hb20 (by decide))]
              split
              · omega
              · rename_i h; rw [beq_iff_eq] at h; omega
             have hidx : AF Tryz.prog 77 [pB (l.drop n), pStr ⟨#[10]⟩] (· = pInt (Lib.indexByte (c :: m) 10)) := by
              rw [hcm]; exact strIndex_e (c :: m)
             (refine aC_region ?_ <;> refine xL 22 q_move ?_ <;> refine xL 23 (q_nilo 1000) ?_ <;> refine xL 24 (q_fldo 1000 tFl99_0_PtT) ?_ <;> (refine yL 25 (q_ldo 1000 tNa9_PtT) fun v25 hv25 => ?_; cases hv25) <;> (refine cS 26 (cA Tryz.call77 (hidx)) fun v26 hv26 => ?_; cases hv26) <;> refine xL 2 q_assign ?_ <;> refine aL_end (nav ?_) <;> try dsimp only)
             (refine aC_region ?_ <;> refine xL 27 q_move ?_ <;> refine xL 28 q_lss ?_ <;> refine aL_end (nav ?_) <;> try dsimp only)
             (first | refine cCd ?_ ?_ | refine cC ?_ ?_) <;> intro hb28
             · first
               | exact Bool.noConfusion hb28
               | (
                refine nav ?_
                (refine aC_region ?_ <;> refine xL 29 q_move ?_ <;> refine xL 30 (q_nilo 1000) ?_ <;> refine xL 31 (q_fldo 1000 tFl99_0_PtT) ?_ <;> (refine yL 32 (q_ldo 1000 tNa9_PtT) fun v32 hv32 => ?_; cases hv32) <;> refine xL 33 (q_slen Tryz.underlying9) ?_ <;> refine xL 2 q_assign ?_ <;> refine aL_end (nav ?_) <;> try dsimp only)
                obtain ⟨j, hj0, hj1, hj2, hj3⟩ : ∃ j : Nat, 1 ≤ j ∧ j ≤ m.length + 1 ∧ n + j + blkN false (l.drop (n + j)) = blkN false l ∧ (j : Int) = (if Lib.indexByte (c :: m) 10 < 0 then ((m.length + 1 : Nat) : Int) else Lib.indexByte (c :: m) 10) := by
                 split
                 · rename_i hlt
                   have := hi1 hlt
                   rw [List.length_cons] at this
                   refine ⟨m.length + 1, by omega, Nat.le_refl _, ?_, rfl⟩
                   rw [← List.drop_drop, hcm, drop_all (by rw [List.length_cons]; exact Nat.le_refl _), blkN]; omega
                 · rename_i hlt
                   obtain ⟨h5, h6⟩ := hi2 (by omega)
                   rw [List.length_cons] at h5
                   refine ⟨(Lib.indexByte (c :: m) 10).toNat, by omega, h5, ?_, by omega⟩
                   rw [← List.drop_drop, hcm]; omega
                have hskJ : ∀ i : Int, i = (j : Int) → AFh False Tryz.prog 59 [(0, ptr1 b, .val (ptr1 b)), (1, .int .i64 i, pInt i)] (RdH b (l.drop n) (advs p (l.take n))) (fun _ _ h => h = RdH b (l.drop (n + j)) (advs p (l.take (n + j)))) := fun i hi => by
                 subst hi; exact hsk j (by omega)
                (refine aC_region ?_ <;> refine xL 34 q_move ?_ <;> refine xL 35 q_move ?_ <;> (first | (refine aL_ch [] 36 (Tryz.call59) (hskJ _ (show (Lib.indexByte (c :: m) 10) = (j : Int) by rw [hj3, if_neg (by omega)])) (fun v36 p36 h36 hR36 => ?_); subst hR36; dsimp only [RdH]) | (refine aL_ch [] 36 (Tryz.call59) (hskJ _ (show ((bst (l.drop n)).size : Int) = (j : Int) by rw [hj3, if_pos (by omega), bst_size, hml])) (fun v36 p36 h36 hR36 => ?_); subst hR36; dsimp only [RdH])) <;> refine aL_end (nav ?_) <;> try dsimp only)
                first
                 | (exact aN_again (
                     ⟨n + 1, by omega, by rw [hdm]; omega⟩
                     ) (by dsimp only; omega) ⟨rfl, trivial⟩ ⟨rfl, trivial⟩)
                 | (exact aN_again (
                     ⟨n + j, by omega, by omega⟩
                     ) (by dsimp only; omega) ⟨rfl, trivial⟩ ⟨rfl, trivial⟩))
             · first
               | exact Bool.noConfusion hb28
               | (
                refine nav ?_
                obtain ⟨j, hj0, hj1, hj2, hj3⟩ : ∃ j : Nat, 1 ≤ j ∧ j ≤ m.length + 1 ∧ n + j + blkN false (l.drop (n + j)) = blkN false l ∧ (j : Int) = (if Lib.indexByte (c :: m) 10 < 0 then ((m.length + 1 : Nat) : Int) else Lib.indexByte (c :: m) 10) := by
                 split
                 · rename_i hlt
                   have := hi1 hlt
                   rw [List.length_cons] at this
                   refine ⟨m.length + 1, by omega, Nat.le_refl _, ?_, rfl⟩
                   rw [← List.drop_drop, hcm, drop_all (by rw [List.length_cons]; exact Nat.le_refl _), blkN]; omega
                 · rename_i hlt
                   obtain ⟨h5, h6⟩ := hi2 (by omega)
                   rw [List.length_cons] at h5
                   refine ⟨(Lib.indexByte (c :: m) 10).toNat, by omega, h5, ?_, by omega⟩
                   rw [← List.drop_drop, hcm]; omega
                have hskJ : ∀ i : Int, i = (j : Int) → AFh False Tryz.prog 59 [(0, ptr1 b, .val (ptr1 b)), (1, .int .i64 i, pInt i)] (RdH b (l.drop n) (advs p (l.take n))) (fun _ _ h => h = RdH b (l.drop (n + j)) (advs p (l.take (n + j)))) := fun i hi => by
                 subst hi; exact hsk j (by omega)
                (refine aC_region ?_ <;> refine xL 34 q_move ?_ <;> refine xL 35 q_move ?_ <;> (first | (refine aL_ch [] 36 (Tryz.call59) (hskJ _ (show (Lib.indexByte (c :: m) 10) = (j : Int) by rw [hj3, if_neg (by omega)])) (fun v36 p36 h36 hR36 => ?_); subst hR36; dsimp only [RdH]) | (refine aL_ch [] 36 (Tryz.call59) (hskJ _ (show ((bst (l.drop n)).size : Int) = (j : Int) by rw [hj3, if_pos (by omega), bst_size, hml])) (fun v36 p36 h36 hR36 => ?_); subst hR36; dsimp only [RdH])) <;> refine aL_end (nav ?_) <;> try dsimp only)
                first
                 | (exact aN_again (
                     ⟨n + 1, by omega, by rw [hdm]; omega⟩
                     ) (by dsimp only; omega) ⟨rfl, trivial⟩ ⟨rfl, trivial⟩)
                 | (exact aN_again (
                     ⟨n + j, by omega, by omega⟩
                     ) (by dsimp only; omega) ⟨rfl, trivial⟩ ⟨rfl, trivial⟩)))
          · first
            | exact Bool.noConfusion hb20
            | (
             refine nav ?_
             have hnb : isBB c = false := by
              unfold isBB
              simp only [Bool.or_eq_false_iff, beq_eq_false_iff_ne]
              omega
             rw [blkN_not hnb (by omega)] at hb
             have hb' : blkN false l = n := by omega
             refine ret_h0 (RdH b (l.drop n) (advs p (l.take n))) (Tryz.results57) ⟨rfl, trivial⟩ ?_
             rw [hb']; rfl)))
    · first
      | exact Bool.noConfusion hb13
      | (
       refine nav ?_
       (refine aC_region ?_ <;> refine xL 15 q_eql ?_ <;> refine xL 13 q_assign ?_ <;> refine aL_end (nav ?_) <;> try dsimp only)
       (first | refine cCd ?_ ?_ | refine cC ?_ ?_) <;> intro hb13
       · first
         | exact Bool.noConfusion hb13
         | (
          refine nav ?_
          (first | refine cCd ?_ ?_ | refine cC ?_ ?_) <;> intro hb13
          · first
            | exact Bool.noConfusion hb13
            | (
             refine nav ?_
             have hbl : isBB c = true := by
              unfold isBB
              simp only [Bool.or_eq_true, beq_iff_eq]
              omega
             rw [blkN, if_pos hbl] at hb
             have hdm : l.drop (n + 1) = m := by rw [← List.drop_drop, hcm]; rfl
             (refine aC_region ?_ <;> refine xL 18 q_move ?_ <;> (refine aL_ch [] 19 (Tryz.call59) (hsk 1 (by omega)) (fun v19 p19 h19 hR19 => ?_); subst hR19; dsimp only [RdH]) <;> refine aL_end (nav ?_) <;> try dsimp only)
             first
              | (exact aN_again (
                  ⟨n + 1, by omega, by rw [hdm]; omega⟩
                  ) (by dsimp only; omega) ⟨rfl, trivial⟩ ⟨rfl, trivial⟩)
              | (exact aN_again (
                  ⟨n + j, by omega, by omega⟩
                  ) (by dsimp only; omega) ⟨rfl, trivial⟩ ⟨rfl, trivial⟩))
          · first
            | exact Bool.noConfusion hb13
            | (
             refine nav ?_
             (refine aC_region ?_ <;> refine xL 21 q_eql ?_ <;> refine xL 20 q_assign ?_ <;> refine aL_end (nav ?_) <;> try dsimp only)
             (first | refine cCd ?_ ?_ | refine cC ?_ ?_) <;> intro hb20
             · first
               | exact Bool.noConfusion hb20
               | (
                refine nav ?_
                have hnb : isBB c = false := by
                 unfold isBB
                 simp only [Bool.or_eq_false_iff, beq_eq_false_iff_ne]
                 omega
                obtain ⟨hi1, hi2⟩ := blk_com (c :: m) _ rfl
                rw [blkN, if_neg (by rw [hnb]; exact Bool.false_ne_true), if_pos (by omega)] at hb
                have hct : blkN true (c :: m) = 1 + blkN true m := by
                 rw [blkN, show (c.toNat != 10) = true by rw [bne_iff_ne]; omega]
                rw [hct] at hi1 hi2
                have hne0 : Lib.indexByte (c :: m) 10 ≠ 0 := by
                 have hge := Lib.indexByte_ge m 10
                 rw [Lib.indexByte, if_neg (by rw [beq_iff_eq]; intro h; subst h; exact absurd hb20 (by decide))]
                 split
                 · omega
                 · rename_i h; rw [beq_iff_eq] at h; omega
                have hidx : AF Tryz.prog 77 [pB (l.drop n), pStr ⟨#[10]⟩] (· = pInt (Lib.indexByte (c :: m) 10)) := by
                 rw [hcm]; exact strIndex_e (c :: m)
                (refine aC_region ?_ <;> refine xL 22 q_move ?_ <;> refine xL 23 (q_nilo 1000) ?_ <;> refine xL 24 (q_fldo 1000 tFl99_0_PtT) ?_ <;> (refine yL 25 (q_ldo 1000 tNa9_PtT) fun v25 hv25 => ?_; cases hv25) <;> (refine cS 26 (cA Tryz.call77 (hidx)) fun v26 hv26 => ?_; cases hv26) <;> refine xL 2 q_assign ?_ <;> refine aL_end (nav ?_) <;> try dsimp only)
                (refine aC_region ?_ <;> refine xL 27 q_move ?_ <;> refine xL 28 q_lss ?_ <;> refine aL_end (nav ?_) <;> try dsimp only)
                (first | refine cCd ?_ ?_ | refine cC ?_ ?_) <;> intro hb28
                · first
                  | exact Bool.noConfusion hb28
                  | (
                   refine nav ?_
                   (refine aC_region ?_ <;> refine xL 29 q_move ?_ <;> refine xL 30 (q_nilo 1000) ?_ <;> refine xL 31 (q_fldo 1000 tFl99_0_PtT) ?_ <;> (refine yL 32 (q_ldo 1000 tNa9_PtT) fun v32 hv32 => ?_; cases hv32) <;> refine xL 33 (q_slen Tryz.underlying9) ?_ <;> refine xL 2 q_assign ?_ <;> refine aL_end (nav ?_) <;> try dsimp only)
                   obtain ⟨j, hj0, hj1, hj2, hj3⟩ : ∃ j : Nat, 1 ≤ j ∧ j ≤ m.length + 1 ∧ n + j + blkN false (l.drop (n + j)) = blkN false l ∧ (j : Int) = (if Lib.indexByte (c :: m) 10 < 0 then ((m.length + 1 : Nat) : Int) else Lib.indexByte (c :: m) 10) := by
                    split
                    · rename_i hlt
                      have := hi1 hlt
                      rw [List.length_cons] at this
                      refine ⟨m.length + 1, by omega, Nat.le_refl _, ?_, rfl⟩
                      rw [← List.drop_drop, hcm, drop_all (by rw [List.length_cons]; exact Nat.le_refl _), blkN]; omega
                    · rename_i hlt
                      obtain ⟨h5, h6⟩ := hi2 (by omega)
                      rw [List.length_cons] at h5
                      refine ⟨(Lib.indexByte (c :: m) 10).toNat, by omega, h5, ?_, by omega⟩
                      rw [← List.drop_drop, hcm]; omega
                   have hskJ : ∀ i : Int, i = (j : Int) → AFh False Tryz.prog 59 [(0, ptr1 b, .val (ptr1 b)), (1, .int .i64 i, pInt i)] (RdH b (l.drop n) (advs p (l.take n))) (fun _ _ h => h = RdH b (l.drop (n + j)) (advs p (l.take (n + j)))) := fun i hi => by
                    subst hi; exact hsk j (by omega)
                   (refine aC_region ?_ <;> refine xL 34 q_move ?_ <;> refine xL 35 q_move ?_ <;> (first | (refine aL_ch [] 36 (Tryz.call59) (hskJ _ (show (Lib.indexByte (c :: m) 10) = (j : Int) by rw [hj3, if_neg (by omega)])) (fun v36 p36 h36 hR36 => ?_); subst hR36; dsimp only [RdH]) | (refine aL_ch [] 36 (Tryz.call59) (hskJ _ (show ((bst (l.drop n)).size : Int) = (j : Int) by rw [hj3, if_pos (by omega), bst_size, hml])) (fun v36 p36 h36 hR36 => ?_); subst hR36; dsimp only [RdH])) <;> refine aL_end (nav ?_) <;> try dsimp only)
                   first
                    | (exact aN_again (
                        ⟨n + 1, by omega, by rw [hdm]; omega⟩
                        ) (by dsimp only; omega) ⟨rfl, trivial⟩ ⟨rfl, trivial⟩)
                    | (exact aN_again (
                        ⟨n + j, by omega, by omega⟩
                        ) (by dsimp only; omega) ⟨rfl, trivial⟩ ⟨rfl, trivial⟩))
                · first
                  | exact Bool.noConfusion hb28
                  | (
                   refine nav ?_
                   obtain ⟨j, hj0, hj1, hj2, hj3⟩ : ∃ j : Nat, 1 ≤ j ∧ j ≤ m.length + 1 ∧ n + j + blkN false (l.drop (n + j)) = blkN false l ∧ (j : Int) = (if Lib.indexByte (c :: m) 10 < 0 then ((m.length + 1 : Nat) : Int) else Lib.indexByte (c :: m) 10) := by
                    split
                    · rename_i hlt
                      have := hi1 hlt
                      rw [List.length_cons] at this
                      refine ⟨m.length + 1, by omega, Nat.le_refl _, ?_, rfl⟩
                      rw [← List.drop_drop, hcm, drop_all (by rw [List.length_cons]; exact Nat.le_refl _), blkN]; omega
                    · rename_i hlt
                      obtain ⟨h5, h6⟩ := hi2 (by omega)
                      rw [List.length_cons] at h5
                      refine ⟨(Lib.indexByte (c :: m) 10).toNat, by omega, h5, ?_, by omega⟩
                      rw [← List.drop_drop, hcm]; omega
                   have hskJ : ∀ i : Int, i = (j : Int) → AFh False Tryz.prog 59 [(0, ptr1 b, .val (ptr1 b)), (1, .int .i64 i, pInt i)] (RdH b (l.drop n) (advs p (l.take n))) (fun _ _ h => h = RdH b (l.drop (n + j)) (advs p (l.take (n + j)))) := fun i hi => by
                    subst hi; exact hsk j (by omega)
                   (refine aC_region ?_ <;> refine xL 34 q_move ?_ <;> refine xL 35 q_move ?_ <;> (first | (refine aL_ch [] 36 (Tryz.call59) (hskJ _ (show (Lib.indexByte (c :: m) 10) = (j : Int) by rw [hj3, if_neg (by omega)])) (fun v36 p36 h36 hR36 => ?_); subst hR36; dsimp only [RdH]) | (refine aL_ch [] 36 (Tryz.call59) (hskJ _ (show ((bst (l.drop n)).size : Int) = (j : Int) by rw [hj3, if_pos (by omega), bst_size, hml])) (fun v36 p36 h36 hR36 => ?_); subst hR36; dsimp only [RdH])) <;> refine aL_end (nav ?_) <;> try dsimp only)
                   first
                    | (exact aN_again (
                        ⟨n + 1, by omega, by rw [hdm]; omega⟩
                        ) (by dsimp only; omega) ⟨rfl, trivial⟩ ⟨rfl, trivial⟩)
                    | (exact aN_again (
                        ⟨n + j, by omega, by omega⟩
                        ) (by dsimp only; omega) ⟨rfl, trivial⟩ ⟨rfl, trivial⟩)))
             · first
               | exact Bool.noConfusion hb20
               | (
                refine nav ?_
                have hnb : isBB c = false := by
                 unfold isBB
                 simp only [Bool.or_eq_false_iff, beq_eq_false_iff_ne]
                 omega
                rw [blkN_not hnb (by omega)] at hb
                have hb' : blkN false l = n := by omega
                refine ret_h0 (RdH b (l.drop n) (advs p (l.take n))) (Tryz.results57) ⟨rfl, trivial⟩ ?_
                rw [hb']; rfl)))
       · first
         | exact Bool.noConfusion hb13
         | (
          refine nav ?_
          (refine aC_region ?_ <;> refine xL 16 q_eql ?_ <;> refine xL 13 q_assign ?_ <;> refine aL_end (nav ?_) <;> try dsimp only)
          (first | refine cCd ?_ ?_ | refine cC ?_ ?_) <;> intro hb13
          · first
            | exact Bool.noConfusion hb13
            | (
             refine nav ?_
             (first | refine cCd ?_ ?_ | refine cC ?_ ?_) <;> intro hb13
             · first
               | exact Bool.noConfusion hb13
               | (
                refine nav ?_
                have hbl : isBB c = true := by
                 unfold isBB
                 simp only [Bool.or_eq_true, beq_iff_eq]
                 omega
                rw [blkN, if_pos hbl] at hb
                have hdm : l.drop (n + 1) = m := by rw [← List.drop_drop, hcm]; rfl
                (refine aC_region ?_ <;> refine xL 18 q_move ?_ <;> (refine aL_ch [] 19 (Tryz.call59) (hsk 1 (by omega)) (fun v19 p19 h19 hR19 => ?_); subst hR19; dsimp only [RdH]) <;> refine aL_end (nav ?_) <;> try dsimp only)
                first
                 | (exact aN_again (
                     ⟨n + 1, by omega, by rw [hdm]; omega⟩
                     ) (by dsimp only; omega) ⟨rfl, trivial⟩ ⟨rfl, trivial⟩)
                 | (exact aN_again (
                     ⟨n + j, by omega, by omega⟩
                     ) (by dsimp only; omega) ⟨rfl, trivial⟩ ⟨rfl, trivial⟩))
             · first
               | exact Bool.noConfusion hb13
               | (
                refine nav ?_
                (refine aC_region ?_ <;> refine xL 21 q_eql ?_ <;> refine xL 20 q_assign ?_ <;> refine aL_end (nav ?_) <;> try dsimp only)
                (first | refine cCd ?_ ?_ | refine cC ?_ ?_) <;> intro hb20
                · first
                  | exact Bool.noConfusion hb20
                  | (
                   refine nav ?_
                   have hnb : isBB c = false := by
                    unfold isBB
                    simp only [Bool.or_eq_false_iff, beq_eq_false_iff_ne]
                    omega
                   obtain ⟨hi1, hi2⟩ := blk_com (c :: m) _ rfl
                   rw [blkN, if_neg (by rw [hnb]; exact Bool.false_ne_true), if_pos (by omega)] at hb
                   have hct : blkN true (c :: m) = 1 + blkN true m := by
                    rw [blkN, show (c.toNat != 10) = true by rw [bne_iff_ne]; omega]
                   rw [hct] at hi1 hi2
                   have hne0 : Lib.indexByte (c :: m) 10 ≠ 0 := by
                    have hge := Lib.indexByte_ge m 10
                    rw [Lib.indexByte, if_neg (by rw [beq_iff_eq]; intro h; subst h; exact absurd hb20 (by decide))]
                    split
                    · omega
                    · rename_i h; rw [beq_iff_eq] at h; omega
                   have hidx : AF Tryz.prog 77 [pB (l.drop n), pStr ⟨#[10]⟩] (· = pInt (Lib.indexByte (c :: m) 10)) := by
                    rw [hcm]; exact strIndex_e (c :: m)
                   (refine aC_region ?_ <;> refine xL 22 q_move ?_ <;> refine xL 23 (q_nilo 1000) ?_ <;> refine xL 24 (q_fldo 1000 tFl99_0_PtT) ?_ <;> (refine yL 25 (q_ldo 1000 tNa9_PtT) fun v25 hv25 => ?_; cases hv25) <;> (refine cS 26 (cA Tryz.call77 (hidx)) fun v26 hv26 => ?_; cases hv26) <;> refine xL 2 q_assign ?_ <;> refine aL_end (nav ?_) <;> try dsimp only)
                   (refine aC_region ?_ <;> refine xL 27 q_move ?_ <;> refine xL 28 q_lss ?_ <;> refine aL_end (nav ?_) <;> try dsimp only)
                   (first | refine cCd ?_ ?_ | refine cC ?_ ?_) <;> intro hb28
                   · first
                     | exact Bool.noConfusion hb28
                     | (
                      refine nav ?_
                      (refine aC_region ?_ <;> refine xL 29 q_move ?_ <;> refine xL 30 (q_nilo 1000) ?_ <;> refine xL 31 (q_fldo 1000 tFl99_0_PtT) ?_ <;> (refine yL 32 (q_ldo 1000 tNa9_PtT) fun v32 hv32 => ?_; cases hv32) <;> refine xL 33 (q_slen Tryz.underlying9) ?_ <;> refine xL 2 q_assign ?_ <;> refine aL_end (nav ?_) <;> try dsimp only)
                      obtain ⟨j, hj0, hj1, hj2, hj3⟩ : ∃ j : Nat, 1 ≤ j ∧ j ≤ m.length + 1 ∧ n + j + blkN false (l.drop (n + j)) = blkN false l ∧ (j : Int) = (if Lib.indexByte (c :: m) 10 < 0 then ((m.length + 1 : Nat) : Int) else Lib.indexByte (c :: m) 10) := by
                       split
                       · rename_i hlt
                         have := hi1 hlt
                         rw [List.length_cons] at this
                         refine ⟨m.length + 1, by omega, Nat.le_refl _, ?_, rfl⟩
                         rw [← List.drop_drop, hcm, drop_all (by rw [List.length_cons]; exact Nat.le_refl _), blkN]; omega
                       · rename_i hlt
                         obtain ⟨h5, h6⟩ := hi2 (by omega)
                         rw [List.length_cons] at h5
                         refine ⟨(Lib.indexByte (c :: m) 10).toNat, by omega, h5, ?_, by omega⟩
                         rw [← List.drop_drop, hcm]; omega
                      have hskJ : ∀ i : Int, i = (j : Int) → AFh False Tryz.prog 59 [(0, ptr1 b, .val (ptr1 b)), (1, .int .i64 i, pInt i)] (RdH b (l.drop n) (advs p (l.take n))) (fun _ _ h => h = RdH b (l.drop (n + j)) (advs p (l.take (n + j)))) := fun i hi => by
                       subst hi; exact hsk j (by omega)
                      (refine aC_region ?_ <;> refine xL 34 q_move ?_ <;> refine xL 35 q_move ?_ <;> (first | (refine aL_ch [] 36 (Tryz.call59) (hskJ _ (show (Lib.indexByte (c :: m) 10) = (j : Int) by rw [hj3, if_neg (by omega)])) (fun v36 p36 h36 hR36 => ?_); subst hR36; dsimp only [RdH]) | (refine aL_ch [] 36 (Tryz.call59) (hskJ _ (show ((bst (l.drop n)).size : Int) = (j : Int) by rw [hj3, if_pos (by omega), bst_size, hml])) (fun v36 p36 h36 hR36 => ?_); subst hR36; dsimp only [RdH])) <;> refine aL_end (nav ?_) <;> try dsimp only)
                      first
                       | (exact aN_again (
                           ⟨n + 1, by omega, by rw [hdm]; omega⟩
                           ) (by dsimp only; omega) ⟨rfl, trivial⟩ ⟨rfl, trivial⟩)
                       | (exact aN_again (
                           ⟨n + j, by omega, by omega⟩
                           ) (by dsimp only; omega) ⟨rfl, trivial⟩ ⟨rfl, trivial⟩))
                   · first
                     | exact Bool.noConfusion hb28
                     | (
                      refine nav ?_
                      obtain ⟨j, hj0, hj1, hj2, hj3⟩ : ∃ j : Nat, 1 ≤ j ∧ j ≤ m.length + 1 ∧ n + j + blkN false (l.drop (n + j)) = blkN false l ∧ (j : Int) = (if Lib.indexByte (c :: m) 10 < 0 then ((m.length + 1 : Nat) : Int) else Lib.indexByte (c :: m) 10) := by
                       split
                       · rename_i hlt
                         have := hi1 hlt
                         rw [List.length_cons] at this
                         refine ⟨m.length + 1, by omega, Nat.le_refl _, ?_, rfl⟩
                         rw [← List.drop_drop, hcm, drop_all (by rw [List.length_cons]; exact Nat.le_refl _), blkN]; omega
                       · rename_i hlt
                         obtain ⟨h5, h6⟩ := hi2 (by omega)
                         rw [List.length_cons] at h5
                         refine ⟨(Lib.indexByte (c :: m) 10).toNat, by omega, h5, ?_, by omega⟩
                         rw [← List.drop_drop, hcm]; omega
                      have hskJ : ∀ i : Int, i = (j : Int) → AFh False Tryz.prog 59 [(0, ptr1 b, .val (ptr1 b)), (1, .int .i64 i, pInt i)] (RdH b (l.drop n) (advs p (l.take n))) (fun _ _ h => h = RdH b (l.drop (n + j)) (advs p (l.take (n + j)))) := fun i hi => by
                       subst hi; exact hsk j (by omega)
                      (refine aC_region ?_ <;> refine xL 34 q_move ?_ <;> refine xL 35 q_move ?_ <;> (first | (refine aL_ch [] 36 (Tryz.call59) (hskJ _ (show (Lib.indexByte (c :: m) 10) = (j : Int) by rw [hj3, if_neg (by omega)])) (fun v36 p36 h36 hR36 => ?_); subst hR36; dsimp only [RdH]) | (refine aL_ch [] 36 (Tryz.call59) (hskJ _ (show ((bst (l.drop n)).size : Int) = (j : Int) by rw [hj3, if_pos (by omega), bst_size, hml])) (fun v36 p36 h36 hR36 => ?_); subst hR36; dsimp only [RdH])) <;> refine aL_end (nav ?_) <;> try dsimp only)
                      first
                       | (exact aN_again (
                           ⟨n + 1, by omega, by rw [hdm]; omega⟩
                           ) (by dsimp only; omega) ⟨rfl, trivial⟩ ⟨rfl, trivial⟩)
                       | (exact aN_again (
                           ⟨n + j, by omega, by omega⟩
                           ) (by dsimp only; omega) ⟨rfl, trivial⟩ ⟨rfl, trivial⟩)))
                · first
                  | exact Bool.noConfusion hb20
                  | (
                   refine nav ?_
                   have hnb : isBB c = false := by
                    unfold isBB
                    simp only [Bool.or_eq_false_iff, beq_eq_false_iff_ne]
                    omega
                   rw [blkN_not hnb (by omega)] at hb
                   have hb' : blkN false l = n := by omega
                   refine ret_h0 (RdH b (l.drop n) (advs p (l.take n))) (Tryz.results57) ⟨rfl, trivial⟩ ?_
                   rw [hb']; rfl)))
          · first
            | exact Bool.noConfusion hb13
            | (
             refine nav ?_
             (refine aC_region ?_ <;> refine xL 17 q_eql ?_ <;> refine xL 13 q_assign ?_ <;> refine aL_end (nav ?_) <;> try dsimp only)
             (first | refine cCd ?_ ?_ | refine cC ?_ ?_) <;> intro hb13
             · first
               | exact Bool.noConfusion hb13
               | (
                refine nav ?_
                have hbl : isBB c = true := by
                 unfold isBB
                 simp only [Bool.or_eq_true, beq_iff_eq]
                 omega
                rw [blkN, if_pos hbl] at hb
                have hdm : l.drop (n + 1) = m := by rw [← List.drop_drop, hcm]; rfl
                (refine aC_region ?_ <;> refine xL 18 q_move ?_ <;> (refine aL_ch [] 19 (Tryz.call59) (hsk 1 (by omega)) (fun v19 p19 h19 hR19 => ?_); subst hR19; dsimp only [RdH]) <;> refine aL_end (nav ?_) <;> try dsimp only)
                first
                 | (exact aN_again (
                     ⟨n + 1, by omega, by rw [hdm]; omega⟩
                     ) (by dsimp only; omega) ⟨rfl, trivial⟩ ⟨rfl, trivial⟩)
                 | (exact aN_again (
                     ⟨n + j, by omega, by omega⟩
                     ) (by dsimp only; omega) ⟨rfl, trivial⟩ ⟨rfl, trivial⟩))
             · first
               | exact Bool.noConfusion hb13
               | (
                refine nav ?_
                (refine aC_region ?_ <;> refine xL 21 q_eql ?_ <;> refine xL 20 q_assign ?_ <;> refine aL_end (nav ?_) <;> try dsimp only)
                (first | refine cCd ?_ ?_ | refine cC ?_ ?_) <;> intro hb20
                · first
                  | exact Bool.noConfusion hb20
                  | (
                   refine nav ?_
                   have hnb : isBB c = false := by
                    unfold isBB
                    simp only [Bool.or_eq_false_iff, beq_eq_false_iff_ne]
                    omega
                   obtain ⟨hi1, hi2⟩ := blk_com (c :: m) _ rfl
                   rw [blkN, if_neg (by rw [hnb]; exact Bool.false_ne_true), if_pos (by omega)] at hb
                   have hct : blkN true (c :: m) = 1 + blkN true m := by
                    rw [blkN, show (c.toNat != 10) = true by rw [bne_iff_ne]; omega]
                   rw [hct] at hi1 hi2
                   have hne0 : Lib.indexByte (c :: m) 10 ≠ 0 := by
                    have hge := Lib.indexByte_ge m 10
                    rw [Lib.indexByte, if_neg (by rw [beq_iff_eq]; intro h; subst h; exact absurd hb20 (by decide))]
                    split
                    · omega
                    · rename_i h; rw [beq_iff_eq] at h; omega
                   have hidx : AF Tryz.prog 77 [pB (l.drop n), pStr ⟨#[10]⟩] (· = pInt (Lib.indexByte (c :: m) 10)) := by
                    rw [hcm]; exact strIndex_e (c :: m)
                   (refine aC_region ?_ <;> refine xL 22 q_move ?_ <;> refine xL 23 (q_nilo 1000) ?_ <;> refine xL 24 (q_fldo 1000 tFl99_0_PtT) ?_ <;> (refine yL 25 (q_ldo 1000 tNa9_PtT) fun v25 hv25 => ?_; cases hv25) <;> (refine cS 26 (cA Tryz.call77 (hidx)) fun v26 hv26 => ?_; cases hv26) <;> refine xL 2 q_assign ?_ <;> refine aL_end (nav ?_) <;> try dsimp only)
                   (refine aC_region ?_ <;> refine xL 27 q_move ?_ <;> refine xL 28 q_lss ?_ <;> refine aL_end (nav ?_) <;> try dsimp only)
                   (first | refine cCd ?_ ?_ | refine cC ?_ ?_) <;> intro hb28
                   · first
                     | exact Bool.noConfusion hb28
                     | (
                      refine nav ?_
                      (refine aC_region ?_ <;> refine xL 29 q_move ?_ <;> refine xL 30 (q_nilo 1000) ?_ <;> refine xL 31 (q_fldo 1000 tFl99_0_PtT) ?_ <;> (refine yL 32 (q_ldo 1000 tNa9_PtT) fun v32 hv32 => ?_; cases hv32) <;> refine xL 33 (q_slen Tryz.underlying9) ?_ <;> refine xL 2 q_assign ?_ <;> refine aL_end (nav ?_) <;> try dsimp only)
                      obtain ⟨j, hj0, hj1, hj2, hj3⟩ : ∃ j : Nat, 1 ≤ j ∧ j ≤ m.length + 1 ∧ n + j + blkN false (l.drop (n + j)) = blkN false l ∧ (j : Int) = (if Lib.indexByte (c :: m) 10 < 0 then ((m.length + 1 : Nat) : Int) else Lib.indexByte (c :: m) 10) := by
                       split
                       · rename_i hlt
                         have := hi1 hlt
                         rw [List.length_cons] at this
                         refine ⟨m.length + 1, by omega, Nat.le_refl _, ?_, rfl⟩
                         rw [← List.drop_drop, hcm, drop_all (by rw [List.length_cons]; exact Nat.le_refl _), blkN]; omega
                       · rename_i hlt
                         obtain ⟨h5, h6⟩ := hi2 (by omega)
                         rw [List.length_cons] at h5
                         refine ⟨(Lib.indexByte (c :: m) 10).toNat, by omega, h5, ?_, by omega⟩
                         rw [← List.drop_drop, hcm]; omega
                      have hskJ : ∀ i : Int, i = (j : Int) → AFh False Tryz.prog 59 [(0, ptr1 b, .val (ptr1 b)), (1, .int .i64 i, pInt i)] (RdH b (l.drop n) (advs p (l.take n))) (fun _ _ h => h = RdH b (l.drop (n + j)) (advs p (l.take (n + j)))) := fun i hi => by
                       subst hi; exact hsk j (by omega)
                      (refine aC_region ?_ <;> refine xL 34 q_move ?_ <;> refine xL 35 q_move ?_ <;> (first | (refine aL_ch [] 36 (Tryz.call59) (hskJ _ (show (Lib.indexByte (c :: m) 10) = (j : Int) by rw [hj3, if_neg (by omega)])) (fun v36 p36 h36 hR36 => ?_); subst hR36; dsimp only [RdH]) | (refine aL_ch [] 36 (Tryz.call59) (hskJ _ (show ((bst (l.drop n)).size : Int) = (j : Int) by rw [hj3, if_pos (by omega), bst_size, hml])) (fun v36 p36 h36 hR36 => ?_); subst hR36; dsimp only [RdH])) <;> refine aL_end (nav ?_) <;> try dsimp only)
                      first
                       | (exact aN_again (
                           ⟨n + 1, by omega, by rw [hdm]; omega⟩
                           ) (by dsimp only; omega) ⟨rfl, trivial⟩ ⟨rfl, trivial⟩)
                       | (exact aN_again (
                           ⟨n + j, by omega, by omega⟩
                           ) (by dsimp only; omega) ⟨rfl, trivial⟩ ⟨rfl, trivial⟩))
                   · first
                     | exact Bool.noConfusion hb28
                     | (
                      refine nav ?_
                      obtain ⟨j, hj0, hj1, hj2, hj3⟩ : ∃ j : Nat, 1 ≤ j ∧ j ≤ m.length + 1 ∧ n + j + blkN false (l.drop (n + j)) = blkN false l ∧ (j : Int) = (if Lib.indexByte (c :: m) 10 < 0 then ((m.length + 1 : Nat) : Int) else Lib.indexByte (c :: m) 10) := by
                       split
                       · rename_i hlt
                         have := hi1 hlt
                         rw [List.length_cons] at this
                         refine ⟨m.length + 1, by omega, Nat.le_refl _, ?_, rfl⟩
                         rw [← List.drop_drop, hcm, drop_all (by rw [List.length_cons]; exact Nat.le_refl _), blkN]; omega
                       · rename_i hlt
                         obtain ⟨h5, h6⟩ := hi2 (by omega)
                         rw [List.length_cons] at h5
                         refine ⟨(Lib.indexByte (c :: m) 10).toNat, by omega, h5, ?_, by omega⟩
                         rw [← List.drop_drop, hcm]; omega
                      have hskJ : ∀ i : Int, i = (j : Int) → AFh False Tryz.prog 59 [(0, ptr1 b, .val (ptr1 b)), (1, .int .i64 i, pInt i)] (RdH b (l.drop n) (advs p (l.take n))) (fun _ _ h => h = RdH b (l.drop (n + j)) (advs p (l.take (n + j)))) := fun i hi => by
                       subst hi; exact hsk j (by omega)
                      (refine aC_region ?_ <;> refine xL 34 q_move ?_ <;> refine xL 35 q_move ?_ <;> (first | (refine aL_ch [] 36 (Tryz.call59) (hskJ _ (show (Lib.indexByte (c :: m) 10) = (j : Int) by rw [hj3, if_neg (by omega)])) (fun v36 p36 h36 hR36 => ?_); subst hR36; dsimp only [RdH]) | (refine aL_ch [] 36 (Tryz.call59) (hskJ _ (show ((bst (l.drop n)).size : Int) = (j : Int) by rw [hj3, if_pos (by omega), bst_size, hml])) (fun v36 p36 h36 hR36 => ?_); subst hR36; dsimp only [RdH])) <;> refine aL_end (nav ?_) <;> try dsimp only)
                      first
                       | (exact aN_again (
                           ⟨n + 1, by omega, by rw [hdm]; omega⟩
                           ) (by dsimp only; omega) ⟨rfl, trivial⟩ ⟨rfl, trivial⟩)
                       | (exact aN_again (
                           ⟨n + j, by omega, by omega⟩
                           ) (by dsimp only; omega) ⟨rfl, trivial⟩ ⟨rfl, trivial⟩)))
                · first
                  | exact Bool.noConfusion hb20
                  | (
                   refine nav ?_
                   have hnb : isBB c = false := by
                    unfold isBB
                    simp only [Bool.or_eq_false_iff, beq_eq_false_iff_ne]
                    omega
                   rw [blkN_not hnb (by omega)] at hb
                   have hb' : blkN false l = n := by omega
                   refine ret_h0 (RdH b (l.drop n) (advs p (l.take n))) (Tryz.results57) ⟨rfl, trivial⟩ ?_
                   rw [hb']; rfl))))))
 · first
   | exact Bool.noConfusion hb7
   | (
    have he : l.drop n = [] := by
     rw [bst_empty] at hb7
     simpa using hb7
    have hb' : blkN false l = n := by rw [he] at hb; simpa [blkN] using hb.symm
    refine nav ?_
    refine end_h0 (RdH b (l.drop n) (advs p (l.take n))) (Tryz.results57) ⟨rfl, trivial⟩ ?_
    rw [hb']; rfl)
end Go.Proofs.YtbfilfhgcihhoaaGreatDoor
