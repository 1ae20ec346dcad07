/-
  Walks: automata: both, compare, Equivalent, Included, Product.
  Walks: automata: Union.
  Plain laws: what the reference finishes; a move put in its place. No program in sight.
  Walks: automata: Concat.
  Walks: the reference's automata: the table of an automaton.
  Walks: automata: Product.
  Walks: the reference's automata: the table of the pairs of two automata.
  Walks: the reference's automata: the pairs of two least automata.
  Walks: the reference's automata: Product.
  Walks: the reference's automata: given, added, moved, insert, finish.
  Walks: the reference's automata: Union, Star, Reverse.
  Walks: the reference's automata: Concat.
-/
import Derived.Test.YtgigclnaicbiaaaGreatDoorPk05
namespace Go.Proofs.YtgigclnaicbiaaaGreatDoor
open Go.RowKit Go.Cb Go.En
set_option linter.all false
set_option maxRecDepth 100000
theorem fit_no1 {a b : Aut} (h : autOk a = false) : fitX a b = 1 := by unfold fitX; rw [if_pos (.inl h)]
theorem fit_no2 {a b : Aut} (h : autOk b = false) : fitX a b = 1 := by unfold fitX; rw [if_pos (.inr h)]
theorem fit_ne {a b : Aut} (h1 : autOk a = true) (h2 : autOk b = true) (h : ¬ a.syms = b.syms) : fitX a b = 29 := by unfold fitX; rw [if_neg (by rw [h1, h2]; simp), if_pos h]
theorem fit_ok {a b : Aut} (h1 : autOk a = true) (h2 : autOk b = true) (h : a.syms = b.syms) : fitX a b = 0 := by unfold fitX; rw [if_neg (by rw [h1, h2]; simp), if_neg (fun e => e h)]
theorem fit_zero {a b : Aut} (h : fitX a b = 0) : autOk a = true ∧ autOk b = true ∧ a.syms = b.syms := by
 unfold fitX at h
 split at h
 · omega
 · rename_i h1
   split at h
   · omega
   · rename_i h2
     refine ⟨?_, ?_, ?_⟩
     · cases e : autOk a with
       | true => rfl
       | false => exact absurd (.inl e) h1
     · cases e : autOk b with
       | true => rfl
       | false => exact absurd (.inr e) h1
     · exact Decidable.not_not.1 h2
def pPZ : PV := .agg [pInt 0, .val (.slice none 0 0), .val (.slice none 0 0), .val (.slice none 0 0), .val (.slice none 0 0)]
def resB (a b : Aut) (op : Int) : PV := match bothX a b with
 | .ok (A, B, q) => .tup [pPairs A B op q, pInt 0]
 | .error e => .tup [pPZ, pInt e]
theorem aFit_ff (a b : Aut) (ha : autOk a = false) (hb : autOk b = false) (hs : True) : AF Tryz.prog 70 [pAut a, pAut b] (· = pInt 1) := by
 have hva := aValid_e a
 have hvb := aValid_e b
 rw [ha] at hva
 rw [hb] at hvb
 refine AF.of_body 20 Tryz.func70 rfl Tryz.ntmps70 (Nat.le_of_ble_eq_true rfl) ?_
 intro w0 M0 vs hl hv
 obtain ⟨v0, v1, rfl⟩ := len2 hl
 clear hl hv
 refine nav ?_
 (refine aC_region ?_ <;> refine s_boxa 2 5 fun h2 => ?_ <;> refine s_boxa 3 5 fun h3 => ?_ <;> refine xL 4 q_assign ?_ <;> refine aL_end (nav ?_) <;> try dsimp only)
 (refine aC_region ?_ <;> (refine yL 6 (q_ldao 2 tAgg25_LdS) fun v6 hv6 => ?_; cases hv6) <;> (refine cS 7 (cA Tryz.call24 (hva)) fun v7 hv7 => ?_; cases hv7) <;> refine xL 8 q_not ?_ <;> refine xL 9 q_move ?_ <;> refine kL 10 ?_ <;> refine kL 11 ?_ <;> refine kL 12 ?_ <;> refine xL 13 q_pick ?_ <;> refine xL 5 q_assign ?_ <;> refine aL_end (nav ?_) <;> try dsimp only) <;> (
  (first | refine cCd ?_ ?_ | refine cC ?_ ?_) <;> intro hb5
  · first
    | exact Bool.noConfusion hb5
    | (
     refine nav ?_
     (refine aC_region ?_ <;> refine xL 4 q_assign ?_ <;> refine aL_end (nav ?_) <;> try dsimp only)
     exact ret_shr (Tryz.results70) rfl rfl)
  · first
    | exact Bool.noConfusion hb5
    | skip)
theorem aFit_ft (a b : Aut) (ha : autOk a = false) (hb : autOk b = true) (hs : True) : AF Tryz.prog 70 [pAut a, pAut b] (· = pInt 1) := by
 have hva := aValid_e a
 have hvb := aValid_e b
 rw [ha] at hva
 rw [hb] at hvb
 refine AF.of_body 20 Tryz.func70 rfl Tryz.ntmps70 (Nat.le_of_ble_eq_true rfl) ?_
 intro w0 M0 vs hl hv
 obtain ⟨v0, v1, rfl⟩ := len2 hl
 clear hl hv
 refine nav ?_
 (refine aC_region ?_ <;> refine s_boxa 2 5 fun h2 => ?_ <;> refine s_boxa 3 5 fun h3 => ?_ <;> refine xL 4 q_assign ?_ <;> refine aL_end (nav ?_) <;> try dsimp only)
 (refine aC_region ?_ <;> (refine yL 6 (q_ldao 2 tAgg25_LdS) fun v6 hv6 => ?_; cases hv6) <;> (refine cS 7 (cA Tryz.call24 (hva)) fun v7 hv7 => ?_; cases hv7) <;> refine xL 8 q_not ?_ <;> refine xL 9 q_move ?_ <;> refine kL 10 ?_ <;> refine kL 11 ?_ <;> refine kL 12 ?_ <;> refine xL 13 q_pick ?_ <;> refine xL 5 q_assign ?_ <;> refine aL_end (nav ?_) <;> try dsimp only) <;> (
  (first | refine cCd ?_ ?_ | refine cC ?_ ?_) <;> intro hb5
  · first
    | exact Bool.noConfusion hb5
    | (
     refine nav ?_
     (refine aC_region ?_ <;> refine xL 4 q_assign ?_ <;> refine aL_end (nav ?_) <;> try dsimp only)
     exact ret_shr (Tryz.results70) rfl rfl)
  · first
    | exact Bool.noConfusion hb5
    | skip)
theorem aFit_tf (a b : Aut) (ha : autOk a = true) (hb : autOk b = false) (hs : True) : AF Tryz.prog 70 [pAut a, pAut b] (· = pInt 1) := by
 have hva := aValid_e a
 have hvb := aValid_e b
 rw [ha] at hva
 rw [hb] at hvb
 refine AF.of_body 20 Tryz.func70 rfl Tryz.ntmps70 (Nat.le_of_ble_eq_true rfl) ?_
 intro w0 M0 vs hl hv
 obtain ⟨v0, v1, rfl⟩ := len2 hl
 clear hl hv
 refine nav ?_
 (refine aC_region ?_ <;> refine s_boxa 2 5 fun h2 => ?_ <;> refine s_boxa 3 5 fun h3 => ?_ <;> refine xL 4 q_assign ?_ <;> refine aL_end (nav ?_) <;> try dsimp only)
 (refine aC_region ?_ <;> (refine yL 6 (q_ldao 2 tAgg25_LdS) fun v6 hv6 => ?_; cases hv6) <;> (refine cS 7 (cA Tryz.call24 (hva)) fun v7 hv7 => ?_; cases hv7) <;> refine xL 8 q_not ?_ <;> refine xL 9 q_move ?_ <;> (refine yL 10 (q_ldao 3 tAgg25_LdS) fun v10 hv10 => ?_; cases hv10) <;> (refine cS 11 (cA Tryz.call24 (hvb)) fun v11 hv11 => ?_; cases hv11) <;> refine xL 12 q_not ?_ <;> refine xL 13 q_pick ?_ <;> refine xL 5 q_assign ?_ <;> refine aL_end (nav ?_) <;> try dsimp only) <;> (
  (first | refine cCd ?_ ?_ | refine cC ?_ ?_) <;> intro hb5
  · first
    | exact Bool.noConfusion hb5
    | (
     refine nav ?_
     (refine aC_region ?_ <;> refine xL 4 q_assign ?_ <;> refine aL_end (nav ?_) <;> try dsimp only)
     exact ret_shr (Tryz.results70) rfl rfl)
  · first
    | exact Bool.noConfusion hb5
    | skip)
theorem aFit_tn (a b : Aut) (ha : autOk a = true) (hb : autOk b = true) (hs : ¬ a.syms = b.syms) : AF Tryz.prog 70 [pAut a, pAut b] (· = pInt 29) := by
 have hva := aValid_e a
 have hvb := aValid_e b
 rw [ha] at hva
 rw [hb] at hvb
 refine AF.of_body 20 Tryz.func70 rfl Tryz.ntmps70 (Nat.le_of_ble_eq_true rfl) ?_
 intro w0 M0 vs hl hv
 obtain ⟨v0, v1, rfl⟩ := len2 hl
 clear hl hv
 refine nav ?_
 (refine aC_region ?_ <;> refine s_boxa 2 5 fun h2 => ?_ <;> refine s_boxa 3 5 fun h3 => ?_ <;> refine xL 4 q_assign ?_ <;> refine aL_end (nav ?_) <;> try dsimp only)
 (refine aC_region ?_ <;> (refine yL 6 (q_ldao 2 tAgg25_LdS) fun v6 hv6 => ?_; cases hv6) <;> (refine cS 7 (cA Tryz.call24 (hva)) fun v7 hv7 => ?_; cases hv7) <;> refine xL 8 q_not ?_ <;> refine xL 9 q_move ?_ <;> (refine yL 10 (q_ldao 3 tAgg25_LdS) fun v10 hv10 => ?_; cases hv10) <;> (refine cS 11 (cA Tryz.call24 (hvb)) fun v11 hv11 => ?_; cases hv11) <;> refine xL 12 q_not ?_ <;> refine xL 13 q_pick ?_ <;> refine xL 5 q_assign ?_ <;> refine aL_end (nav ?_) <;> try dsimp only) <;> (
  (first | refine cCd ?_ ?_ | refine cC ?_ ?_) <;> intro hb5
  · first
    | exact Bool.noConfusion hb5
    | (
     refine nav ?_
     (refine aC_region ?_ <;> refine xL 4 q_assign ?_ <;> refine aL_end (nav ?_) <;> try dsimp only)
     exact ret_shr (Tryz.results70) rfl rfl)
  · first
    | exact Bool.noConfusion hb5
    | (
     refine nav ?_
     (refine aC_region ?_ <;> refine xL 15 (q_fldo 2 tFl25_1_LdI) ?_ <;> (refine yL 16 (q_ldo 2 tNa3_LbB) fun v16 hv16 => ?_; cases hv16) <;> refine xL 17 (q_fldo 3 tFl25_1_LdI) ?_ <;> (refine yL 18 (q_ldo 3 tNa3_LbB) fun v18 hv18 => ?_; cases hv18) <;> refine xL 19 q_neq ?_ <;> refine xL 14 q_assign ?_ <;> refine aL_end (nav ?_) <;> try dsimp only)
     (first | refine cCd ?_ ?_ | refine cC ?_ ?_) <;> intro hb14
     · first
       | exact Bool.noConfusion hb14
       | (
        refine nav ?_
        (refine aC_region ?_ <;> refine xL 4 q_assign ?_ <;> refine aL_end (nav ?_) <;> try dsimp only)
        first | exact ret_shr (Tryz.results70) rfl rfl | exact absurd hs (by simpa using hb14))
     · first
       | exact Bool.noConfusion hb14
       | (
        refine nav ?_
        (refine aC_region ?_ <;> refine xL 4 q_assign ?_ <;> refine aL_end (nav ?_) <;> try dsimp only)
        first | exact ret_shr (Tryz.results70) rfl rfl | exact absurd (by simpa using hb14) hs)))
theorem aFit_tt (a b : Aut) (ha : autOk a = true) (hb : autOk b = true) (hs : a.syms = b.syms) : AF Tryz.prog 70 [pAut a, pAut b] (· = pInt 0) := by
 have hva := aValid_e a
 have hvb := aValid_e b
 rw [ha] at hva
 rw [hb] at hvb
 refine AF.of_body 20 Tryz.func70 rfl Tryz.ntmps70 (Nat.le_of_ble_eq_true rfl) ?_
 intro w0 M0 vs hl hv
 obtain ⟨v0, v1, rfl⟩ := len2 hl
 clear hl hv
 refine nav ?_
 (refine aC_region ?_ <;> refine s_boxa 2 5 fun h2 => ?_ <;> refine s_boxa 3 5 fun h3 => ?_ <;> refine xL 4 q_assign ?_ <;> refine aL_end (nav ?_) <;> try dsimp only)
 (refine aC_region ?_ <;> (refine yL 6 (q_ldao 2 tAgg25_LdS) fun v6 hv6 => ?_; cases hv6) <;> (refine cS 7 (cA Tryz.call24 (hva)) fun v7 hv7 => ?_; cases hv7) <;> refine xL 8 q_not ?_ <;> refine xL 9 q_move ?_ <;> (refine yL 10 (q_ldao 3 tAgg25_LdS) fun v10 hv10 => ?_; cases hv10) <;> (refine cS 11 (cA Tryz.call24 (hvb)) fun v11 hv11 => ?_; cases hv11) <;> refine xL 12 q_not ?_ <;> refine xL 13 q_pick ?_ <;> refine xL 5 q_assign ?_ <;> refine aL_end (nav ?_) <;> try dsimp only) <;> (
  (first | refine cCd ?_ ?_ | refine cC ?_ ?_) <;> intro hb5
  · first
    | exact Bool.noConfusion hb5
    | (
     refine nav ?_
     (refine aC_region ?_ <;> refine xL 4 q_assign ?_ <;> refine aL_end (nav ?_) <;> try dsimp only)
     exact ret_shr (Tryz.results70) rfl rfl)
  · first
    | exact Bool.noConfusion hb5
    | (
     refine nav ?_
     (refine aC_region ?_ <;> refine xL 15 (q_fldo 2 tFl25_1_LdI) ?_ <;> (refine yL 16 (q_ldo 2 tNa3_LbB) fun v16 hv16 => ?_; cases hv16) <;> refine xL 17 (q_fldo 3 tFl25_1_LdI) ?_ <;> (refine yL 18 (q_ldo 3 tNa3_LbB) fun v18 hv18 => ?_; cases hv18) <;> refine xL 19 q_neq ?_ <;> refine xL 14 q_assign ?_ <;> refine aL_end (nav ?_) <;> try dsimp only)
     (first | refine cCd ?_ ?_ | refine cC ?_ ?_) <;> intro hb14
     · first
       | exact Bool.noConfusion hb14
       | (
        refine nav ?_
        (refine aC_region ?_ <;> refine xL 4 q_assign ?_ <;> refine aL_end (nav ?_) <;> try dsimp only)
        first | exact ret_shr (Tryz.results70) rfl rfl | exact absurd hs (by simpa using hb14))
     · first
       | exact Bool.noConfusion hb14
       | (
        refine nav ?_
        (refine aC_region ?_ <;> refine xL 4 q_assign ?_ <;> refine aL_end (nav ?_) <;> try dsimp only)
        first | exact ret_shr (Tryz.results70) rfl rfl | exact absurd (by simpa using hb14) hs)))
theorem aFit_e (a b : Aut) : AF Tryz.prog 70 [pAut a, pAut b] (· = pInt (fitX a b)) := by
 cases ha : autOk a
 · rw [fit_no1 ha]
   cases hb : autOk b
   · exact aFit_ff a b ha hb trivial
   · exact aFit_ft a b ha hb trivial
 · cases hb : autOk b
   · rw [fit_no2 hb]; exact aFit_tf a b ha hb trivial
   · by_cases hs : a.syms = b.syms
     · rw [fit_ok ha hb hs]; exact aFit_tt a b ha hb hs
     · rw [fit_ne ha hb hs]; exact aFit_tn a b ha hb hs
theorem aBoth_oe (a b : Aut) (op : Int) {A : Aut} (ha : AF Tryz.prog 83 [pAut a] (· = .tup [pAut A, pInt 0])) (hb : AF Tryz.prog 83 [pAut b] (· = .tup [rawZ, pInt 13])) : AF Tryz.prog 71 [pAut a, pAut b, pInt op] (· = .tup [pPZ, pInt 13]) := by
 refine AF.of_body 42 Tryz.func71 rfl Tryz.ntmps71 (Nat.le_of_ble_eq_true rfl) ?_
 intro w0 M0 vs hl hv
 obtain ⟨v0, v1, v2, rfl⟩ := len3 hl
 obtain rfl := hv 2 _ _ rfl rfl
 clear hl hv
 refine nav ?_
 (refine aC_region ?_ <;> refine s_boxa 3 5 fun h3 => ?_ <;> refine s_boxa 4 5 fun h4 => ?_ <;> refine s_alloc [(.int .i64 0), (.slice none 0 0), (.slice none 0 0), (.slice none 0 0), (.slice none 0 0)] 5 6 tZr95_LfP fun h6 => ?_ <;> refine xL 7 q_assign ?_ <;> refine aL_end (nav ?_) <;> try dsimp only)
 (refine aC_region ?_ <;> (refine yL 15 (q_ldao 3 tAgg25_LdS) fun v15 hv15 => ?_; cases hv15) <;> (refine cP 16 (cA Tryz.call83 (ha)) fun va16 vb16 hva16 hvb16 => ?_; cases hvb16) <;> refine xL 14 q_move ?_ <;> refine xL 17 q_extract ?_ <;> refine xL 18 q_extract ?_ <;> refine s_alloc [(.int .i64 0), (.int .i64 0), (.slice none 0 0), (.slice none 0 0), (.slice none 0 0)] 5 8 tZr25_LfD fun h8 => ?_ <;> refine s_sta 8 tAgg25_LdS ?_ <;> refine xL 9 q_assign ?_ <;> refine aL_end (nav ?_) <;> try dsimp only)
 (refine aC_region ?_ <;> (refine yL 20 (q_ldao 4 tAgg25_LdS) fun v20 hv20 => ?_; cases hv20) <;> (refine cP 21 (cA Tryz.call83 (hb)) fun va21 vb21 hva21 hvb21 => ?_; cases hvb21) <;> refine xL 19 q_move ?_ <;> refine xL 22 q_extract ?_ <;> refine xL 23 q_extract ?_ <;> refine s_alloc [(.int .i64 0), (.int .i64 0), (.slice none 0 0), (.slice none 0 0), (.slice none 0 0)] 5 10 tZr25_LfD fun h10 => ?_ <;> refine s_sta 10 tAgg25_LdS ?_ <;> refine xL 11 q_assign ?_ <;> refine aL_end (nav ?_) <;> try dsimp only)
 (refine aC_region ?_ <;> refine xL 24 q_move ?_ <;> refine xL 25 q_neq ?_ <;> refine xL 26 q_move ?_ <;> refine xL 27 q_move ?_ <;> refine xL 28 q_neq ?_ <;> refine xL 29 q_pick ?_ <;> refine aL_end (nav ?_) <;> try dsimp only) <;> (
  (first | refine cCd ?_ ?_ | refine cC ?_ ?_) <;> intro hb29
  · refine nav ?_
    (refine aC_region ?_ <;> refine xL 30 (q_build0 stPairs rfl) ?_ <;> refine s_sta 6 tAgg95_LfP ?_ <;> refine xL 7 q_assign ?_ <;> refine aL_end (nav ?_) <;> try dsimp only)
    exact ret_cs (k := 5) 6 (by kernel_rfl) (Tryz.results71) rfl rfl rfl (Nat.le_of_ble_eq_true rfl) (by decide) rfl rfl
  · first | omega | exact absurd (by decide) hb29 | exact Bool.noConfusion hb29)
theorem aBoth_eo (a b : Aut) (op : Int) {A : Aut} (ha : AF Tryz.prog 83 [pAut a] (· = .tup [rawZ, pInt 13])) (hb : AF Tryz.prog 83 [pAut b] (· = .tup [pAut A, pInt 0])) : AF Tryz.prog 71 [pAut a, pAut b, pInt op] (· = .tup [pPZ, pInt 13]) := by
 refine AF.of_body 42 Tryz.func71 rfl Tryz.ntmps71 (Nat.le_of_ble_eq_true rfl) ?_
 intro w0 M0 vs hl hv
 obtain ⟨v0, v1, v2, rfl⟩ := len3 hl
 obtain rfl := hv 2 _ _ rfl rfl
 clear hl hv
 refine nav ?_
 (refine aC_region ?_ <;> refine s_boxa 3 5 fun h3 => ?_ <;> refine s_boxa 4 5 fun h4 => ?_ <;> refine s_alloc [(.int .i64 0), (.slice none 0 0), (.slice none 0 0), (.slice none 0 0), (.slice none 0 0)] 5 6 tZr95_LfP fun h6 => ?_ <;> refine xL 7 q_assign ?_ <;> refine aL_end (nav ?_) <;> try dsimp only)
 (refine aC_region ?_ <;> (refine yL 15 (q_ldao 3 tAgg25_LdS) fun v15 hv15 => ?_; cases hv15) <;> (refine cP 16 (cA Tryz.call83 (ha)) fun va16 vb16 hva16 hvb16 => ?_; cases hvb16) <;> refine xL 14 q_move ?_ <;> refine xL 17 q_extract ?_ <;> refine xL 18 q_extract ?_ <;> refine s_alloc [(.int .i64 0), (.int .i64 0), (.slice none 0 0), (.slice none 0 0), (.slice none 0 0)] 5 8 tZr25_LfD fun h8 => ?_ <;> refine s_sta 8 tAgg25_LdS ?_ <;> refine xL 9 q_assign ?_ <;> refine aL_end (nav ?_) <;> try dsimp only)
 (refine aC_region ?_ <;> (refine yL 20 (q_ldao 4 tAgg25_LdS) fun v20 hv20 => ?_; cases hv20) <;> (refine cP 21 (cA Tryz.call83 (hb)) fun va21 vb21 hva21 hvb21 => ?_; cases hvb21) <;> refine xL 19 q_move ?_ <;> refine xL 22 q_extract ?_ <;> refine xL 23 q_extract ?_ <;> refine s_alloc [(.int .i64 0), (.int .i64 0), (.slice none 0 0), (.slice none 0 0), (.slice none 0 0)] 5 10 tZr25_LfD fun h10 => ?_ <;> refine s_sta 10 tAgg25_LdS ?_ <;> refine xL 11 q_assign ?_ <;> refine aL_end (nav ?_) <;> try dsimp only)
 (refine aC_region ?_ <;> refine xL 24 q_move ?_ <;> refine xL 25 q_neq ?_ <;> refine xL 26 q_move ?_ <;> refine kL 27 ?_ <;> refine kL 28 ?_ <;> refine xL 29 q_pick ?_ <;> refine aL_end (nav ?_) <;> try dsimp only) <;> (
  (first | refine cCd ?_ ?_ | refine cC ?_ ?_) <;> intro hb29
  · refine nav ?_
    (refine aC_region ?_ <;> refine xL 30 (q_build0 stPairs rfl) ?_ <;> refine s_sta 6 tAgg95_LfP ?_ <;> refine xL 7 q_assign ?_ <;> refine aL_end (nav ?_) <;> try dsimp only)
    exact ret_cs (k := 5) 6 (by kernel_rfl) (Tryz.results71) rfl rfl rfl (Nat.le_of_ble_eq_true rfl) (by decide) rfl rfl
  · first | omega | exact absurd (by decide) hb29 | exact Bool.noConfusion hb29)
theorem aBoth_ee (a b : Aut) (op : Int)  (ha : AF Tryz.prog 83 [pAut a] (· = .tup [rawZ, pInt 13])) (hb : AF Tryz.prog 83 [pAut b] (· = .tup [rawZ, pInt 13])) : AF Tryz.prog 71 [pAut a, pAut b, pInt op] (· = .tup [pPZ, pInt 13]) := by
 refine AF.of_body 42 Tryz.func71 rfl Tryz.ntmps71 (Nat.le_of_ble_eq_true rfl) ?_
 intro w0 M0 vs hl hv
 obtain ⟨v0, v1, v2, rfl⟩ := len3 hl
 obtain rfl := hv 2 _ _ rfl rfl
 clear hl hv
 refine nav ?_
 (refine aC_region ?_ <;> refine s_boxa 3 5 fun h3 => ?_ <;> refine s_boxa 4 5 fun h4 => ?_ <;> refine s_alloc [(.int .i64 0), (.slice none 0 0), (.slice none 0 0), (.slice none 0 0), (.slice none 0 0)] 5 6 tZr95_LfP fun h6 => ?_ <;> refine xL 7 q_assign ?_ <;> refine aL_end (nav ?_) <;> try dsimp only)
 (refine aC_region ?_ <;> (refine yL 15 (q_ldao 3 tAgg25_LdS) fun v15 hv15 => ?_; cases hv15) <;> (refine cP 16 (cA Tryz.call83 (ha)) fun va16 vb16 hva16 hvb16 => ?_; cases hvb16) <;> refine xL 14 q_move ?_ <;> refine xL 17 q_extract ?_ <;> refine xL 18 q_extract ?_ <;> refine s_alloc [(.int .i64 0), (.int .i64 0), (.slice none 0 0), (.slice none 0 0), (.slice none 0 0)] 5 8 tZr25_LfD fun h8 => ?_ <;> refine s_sta 8 tAgg25_LdS ?_ <;> refine xL 9 q_assign ?_ <;> refine aL_end (nav ?_) <;> try dsimp only)
 (refine aC_region ?_ <;> (refine yL 20 (q_ldao 4 tAgg25_LdS) fun v20 hv20 => ?_; cases hv20) <;> (refine cP 21 (cA Tryz.call83 (hb)) fun va21 vb21 hva21 hvb21 => ?_; cases hvb21) <;> refine xL 19 q_move ?_ <;> refine xL 22 q_extract ?_ <;> refine xL 23 q_extract ?_ <;> refine s_alloc [(.int .i64 0), (.int .i64 0), (.slice none 0 0), (.slice none 0 0), (.slice none 0 0)] 5 10 tZr25_LfD fun h10 => ?_ <;> refine s_sta 10 tAgg25_LdS ?_ <;> refine xL 11 q_assign ?_ <;> refine aL_end (nav ?_) <;> try dsimp only)
 (refine aC_region ?_ <;> refine xL 24 q_move ?_ <;> refine xL 25 q_neq ?_ <;> refine xL 26 q_move ?_ <;> refine kL 27 ?_ <;> refine kL 28 ?_ <;> refine xL 29 q_pick ?_ <;> refine aL_end (nav ?_) <;> try dsimp only) <;> (
  (first | refine cCd ?_ ?_ | refine cC ?_ ?_) <;> intro hb29
  · refine nav ?_
    (refine aC_region ?_ <;> refine xL 30 (q_build0 stPairs rfl) ?_ <;> refine s_sta 6 tAgg95_LfP ?_ <;> refine xL 7 q_assign ?_ <;> refine aL_end (nav ?_) <;> try dsimp only)
    exact ret_cs (k := 5) 6 (by kernel_rfl) (Tryz.results71) rfl rfl rfl (Nat.le_of_ble_eq_true rfl) (by decide) rfl rfl
  · first | omega | exact absurd (by decide) hb29 | exact Bool.noConfusion hb29)
theorem aBoth_yes (a b A B : Aut) (op : Int) (q : List PrS × List (List Nat)) (ha : AF Tryz.prog 83 [pAut a] (· = .tup [pAut A, pInt 0])) (hb : AF Tryz.prog 83 [pAut b] (· = .tup [pAut B, pInt 0])) (hp : AF Tryz.prog 104 [pAut A, pAut B, pInt op] (· = .tup [pPairs A B op q, pBool true])) : AF Tryz.prog 71 [pAut a, pAut b, pInt op] (· = .tup [pPairs A B op q, pInt 0]) := by
 refine AF.of_body 42 Tryz.func71 rfl Tryz.ntmps71 (Nat.le_of_ble_eq_true rfl) ?_
 intro w0 M0 vs hl hv
 obtain ⟨v0, v1, v2, rfl⟩ := len3 hl
 obtain rfl := hv 2 _ _ rfl rfl
 clear hl hv
 refine nav ?_
 (refine aC_region ?_ <;> refine s_boxa 3 5 fun h3 => ?_ <;> refine s_boxa 4 5 fun h4 => ?_ <;> refine s_alloc [(.int .i64 0), (.slice none 0 0), (.slice none 0 0), (.slice none 0 0), (.slice none 0 0)] 5 6 tZr95_LfP fun h6 => ?_ <;> refine xL 7 q_assign ?_ <;> refine aL_end (nav ?_) <;> try dsimp only)
 (refine aC_region ?_ <;> (refine yL 15 (q_ldao 3 tAgg25_LdS) fun v15 hv15 => ?_; cases hv15) <;> (refine cP 16 (cA Tryz.call83 (ha)) fun va16 vb16 hva16 hvb16 => ?_; cases hvb16) <;> refine xL 14 q_move ?_ <;> refine xL 17 q_extract ?_ <;> refine xL 18 q_extract ?_ <;> refine s_alloc [(.int .i64 0), (.int .i64 0), (.slice none 0 0), (.slice none 0 0), (.slice none 0 0)] 5 8 tZr25_LfD fun h8 => ?_ <;> refine s_sta 8 tAgg25_LdS ?_ <;> refine xL 9 q_assign ?_ <;> refine aL_end (nav ?_) <;> try dsimp only)
 (refine aC_region ?_ <;> (refine yL 20 (q_ldao 4 tAgg25_LdS) fun v20 hv20 => ?_; cases hv20) <;> (refine cP 21 (cA Tryz.call83 (hb)) fun va21 vb21 hva21 hvb21 => ?_; cases hvb21) <;> refine xL 19 q_move ?_ <;> refine xL 22 q_extract ?_ <;> refine xL 23 q_extract ?_ <;> refine s_alloc [(.int .i64 0), (.int .i64 0), (.slice none 0 0), (.slice none 0 0), (.slice none 0 0)] 5 10 tZr25_LfD fun h10 => ?_ <;> refine s_sta 10 tAgg25_LdS ?_ <;> refine xL 11 q_assign ?_ <;> refine aL_end (nav ?_) <;> try dsimp only)
 (refine aC_region ?_ <;> refine xL 24 q_move ?_ <;> refine xL 25 q_neq ?_ <;> refine xL 26 q_move ?_ <;> refine xL 27 q_move ?_ <;> refine xL 28 q_neq ?_ <;> refine xL 29 q_pick ?_ <;> refine aL_end (nav ?_) <;> try dsimp only) <;> (
  (first | refine cCd ?_ ?_ | refine cC ?_ ?_) <;> intro hb29
  · first | omega | exact absurd rfl hb29 | exact Bool.noConfusion hb29
  · refine nav ?_
    (refine aC_region ?_ <;> (refine yL 32 (q_ldao 8 tAgg25_LdS) fun v32 hv32 => ?_; cases hv32) <;> (refine yL 33 (q_ldao 10 tAgg25_LdS) fun v33 hv33 => ?_; cases hv33) <;> refine xL 34 q_move ?_ <;> (refine cP 35 (cA Tryz.call104 (hp)) fun va35 vb35 hva35 hvb35 => ?_; cases hvb35) <;> refine xL 31 q_move ?_ <;> refine xL 36 q_extract ?_ <;> refine xL 37 q_extract ?_ <;> refine s_alloc [(.int .i64 0), (.slice none 0 0), (.slice none 0 0), (.slice none 0 0), (.slice none 0 0)] 5 12 tZr95_LfP fun h12 => ?_ <;> refine s_sta 12 tAgg95_LfP ?_ <;> refine xL 13 q_assign ?_ <;> refine aL_end (nav ?_) <;> try dsimp only)
    (refine aC_region ?_ <;> refine xL 38 q_move ?_ <;> refine xL 39 q_not ?_ <;> refine aL_end (nav ?_) <;> try dsimp only)
    (first | refine cCd ?_ ?_ | refine cC ?_ ?_) <;> intro hb39
    · first
      | exact Bool.noConfusion hb39
      | skip
    · first
      | exact Bool.noConfusion hb39
      | (
       refine nav ?_
       (refine aC_region ?_ <;> (refine yL 41 (q_ldao 12 tAgg95_LfP) fun v41 hv41 => ?_; cases hv41) <;> refine s_sta 6 tAgg95_LfP ?_ <;> refine xL 7 q_assign ?_ <;> refine aL_end (nav ?_) <;> try dsimp only)
       exact ret_cs (k := 5) 6 (by kernel_rfl) (Tryz.results71) rfl rfl rfl (Nat.le_of_ble_eq_true rfl) (by decide) rfl rfl))
abbrev V5 := { u : Value × Value × Value × Value × Value // En.one (PV.val u.1) = true ∧ En.one (PV.val u.2.1) = true ∧ En.one (PV.val u.2.2.1) = true ∧ En.one (PV.val u.2.2.2.1) = true ∧ En.one (PV.val u.2.2.2.2) = true }
theorem aBoth_no (a b A B : Aut) (op : Int) (ha : AF Tryz.prog 83 [pAut a] (· = .tup [pAut A, pInt 0])) (hb : AF Tryz.prog 83 [pAut b] (· = .tup [pAut B, pInt 0])) (hp : AF Tryz.prog 104 [pAut A, pAut B, pInt op] (fun p => ∃ i : V5, p = .tup [.agg [.val i.1.1, .val i.1.2.1, .val i.1.2.2.1, .val i.1.2.2.2.1, .val i.1.2.2.2.2], pBool false])) : AF Tryz.prog 71 [pAut a, pAut b, pInt op] (· = .tup [pPZ, pInt 13]) := by
 refine AF.of_body 42 Tryz.func71 rfl Tryz.ntmps71 (Nat.le_of_ble_eq_true rfl) ?_
 intro w0 M0 vs hl hv
 obtain ⟨v0, v1, v2, rfl⟩ := len3 hl
 obtain rfl := hv 2 _ _ rfl rfl
 clear hl hv
 refine nav ?_
 (refine aC_region ?_ <;> refine s_boxa 3 5 fun h3 => ?_ <;> refine s_boxa 4 5 fun h4 => ?_ <;> refine s_alloc [(.int .i64 0), (.slice none 0 0), (.slice none 0 0), (.slice none 0 0), (.slice none 0 0)] 5 6 tZr95_LfP fun h6 => ?_ <;> refine xL 7 q_assign ?_ <;> refine aL_end (nav ?_) <;> try dsimp only)
 (refine aC_region ?_ <;> (refine yL 15 (q_ldao 3 tAgg25_LdS) fun v15 hv15 => ?_; cases hv15) <;> (refine cP 16 (cA Tryz.call83 (ha)) fun va16 vb16 hva16 hvb16 => ?_; cases hvb16) <;> refine xL 14 q_move ?_ <;> refine xL 17 q_extract ?_ <;> refine xL 18 q_extract ?_ <;> refine s_alloc [(.int .i64 0), (.int .i64 0), (.slice none 0 0), (.slice none 0 0), (.slice none 0 0)] 5 8 tZr25_LfD fun h8 => ?_ <;> refine s_sta 8 tAgg25_LdS ?_ <;> refine xL 9 q_assign ?_ <;> refine aL_end (nav ?_) <;> try dsimp only)
 (refine aC_region ?_ <;> (refine yL 20 (q_ldao 4 tAgg25_LdS) fun v20 hv20 => ?_; cases hv20) <;> (refine cP 21 (cA Tryz.call83 (hb)) fun va21 vb21 hva21 hvb21 => ?_; cases hvb21) <;> refine xL 19 q_move ?_ <;> refine xL 22 q_extract ?_ <;> refine xL 23 q_extract ?_ <;> refine s_alloc [(.int .i64 0), (.int .i64 0), (.slice none 0 0), (.slice none 0 0), (.slice none 0 0)] 5 10 tZr25_LfD fun h10 => ?_ <;> refine s_sta 10 tAgg25_LdS ?_ <;> refine xL 11 q_assign ?_ <;> refine aL_end (nav ?_) <;> try dsimp only)
 (refine aC_region ?_ <;> refine xL 24 q_move ?_ <;> refine xL 25 q_neq ?_ <;> refine xL 26 q_move ?_ <;> refine xL 27 q_move ?_ <;> refine xL 28 q_neq ?_ <;> refine xL 29 q_pick ?_ <;> refine aL_end (nav ?_) <;> try dsimp only) <;> (
  (first | refine cCd ?_ ?_ | refine cC ?_ ?_) <;> intro hb29
  · first | omega | exact absurd rfl hb29 | exact Bool.noConfusion hb29
  · refine nav ?_
    (refine aC_region ?_ <;> (refine yL 32 (q_ldao 8 tAgg25_LdS) fun v32 hv32 => ?_; cases hv32) <;> (refine yL 33 (q_ldao 10 tAgg25_LdS) fun v33 hv33 => ?_; cases hv33) <;> refine xL 34 q_move ?_ <;> (refine cPx 35 (cA Tryz.call104 hp) (fun i35 v1 v2 hv1 hv2 => ?_) (fun _ => rfl); cases hv2; obtain ⟨⟨u0, u1, u2, u3, u4⟩, n0, n1, n2, n3, n4⟩ := i35; dsimp only at n0 n1 n2 n3 n4) <;> refine xL 31 q_move ?_ <;> refine xL 36 q_extract ?_ <;> refine xL 37 q_extract ?_ <;> refine s_alloc [(.int .i64 0), (.slice none 0 0), (.slice none 0 0), (.slice none 0 0), (.slice none 0 0)] 5 12 tZr95_LfP fun h12 => ?_ <;> refine s_sta 12 tAgg95_LfP ?_ <;> refine xL 13 q_assign ?_ <;> refine aL_end (nav ?_) <;> try dsimp only)
    (refine aC_region ?_ <;> refine xL 38 q_move ?_ <;> refine xL 39 q_not ?_ <;> refine aL_end (nav ?_) <;> try dsimp only)
    (first | refine cCd ?_ ?_ | refine cC ?_ ?_) <;> intro hb39
    · first
      | exact Bool.noConfusion hb39
      | (
       refine nav ?_
       (refine aC_region ?_ <;> refine xL 40 (q_build0 stPairs rfl) ?_ <;> refine s_sta 6 tAgg95_LfP ?_ <;> refine xL 7 q_assign ?_ <;> refine aL_end (nav ?_) <;> try dsimp only)
       exact ret_cs (k := 5) 6 (by kernel_rfl) (Tryz.results71) rfl rfl rfl (Nat.le_of_ble_eq_true rfl) (by decide) rfl rfl)
    · first
      | exact Bool.noConfusion hb39
      | skip)
theorem lim_err {x : Option Aut} {e : Int} (h : lim x = .error e) : e = 13 := by
 cases x with
 | some a => cases h
 | none => cases h; rfl
theorem redX_err {a : Aut} {e : Int} (h : redX a = .error e) : e = 13 := by
 unfold redX at h
 split at h
 · exact lim_err h
 · cases h; rfl
theorem aBoth_e (a b : Aut) (op : Int) (hf : fitX a b = 0) : AF Tryz.prog 71 [pAut a, pAut b, pInt op] (· = resB a b op) := by
 obtain ⟨h1, h2, h3⟩ := fit_zero hf
 have ha := aReduced_x a (aok_of h1)
 have hb := aReduced_x b (aok_of h2)
 unfold resB bothX
 cases ea : redX a with
 | error e =>
   obtain rfl := redX_err ea
   rw [ea] at ha
   cases eb : redX b with
   | error f =>
     obtain rfl := redX_err eb
     rw [eb] at hb
     exact aBoth_ee a b op ha hb
   | ok B => rw [eb] at hb; exact aBoth_eo a b op ha hb
 | ok A =>
   rw [ea] at ha
   cases eb : redX b with
   | error f =>
     obtain rfl := redX_err eb
     rw [eb] at hb
     exact aBoth_oe a b op ha hb
   | ok B =>
     rw [eb] at hb
     obtain ⟨dA, sA⟩ := redX_det (aok_of h1) ea
     obtain ⟨dB, sB⟩ := redX_det (aok_of h2) eb
     have hp := aProduct_e A B op dA dB (by rw [sA, sB, h3])
     dsimp only
     cases eq : prodQ A B with
     | some q => exact aBoth_yes a b A B op q ha hb (hp.mono fun p hr => by
        rcases hr with ⟨q', h4, h5⟩ | ⟨h4, _⟩
        · rw [eq] at h4; cases h4; exact h5
        · rw [eq] at h4; cases h4)
     | none => exact aBoth_no a b A B op ha hb (hp.mono fun p hr => by
        rcases hr with ⟨q', h4, h5⟩ | ⟨_, u0, u1, u2, u3, u4, n0, n1, n2, n3, n4, h5⟩
        · rw [eq] at h4; cases h4
        · exact ⟨⟨(u0, u1, u2, u3, u4), n0, n1, n2, n3, n4⟩, h5⟩)
theorem aCompare_bad (a b : Aut) (op e : Int) (he : ¬ e = 0) (hf : AF Tryz.prog 70 [pAut a, pAut b] (· = pInt e)) : AF Tryz.prog 85 [pAut a, pAut b, pInt op] (· = .tup [pBool false, pInts [], pInt e]) := by
 refine AF.of_body 38 Tryz.func85 rfl Tryz.ntmps85 (Nat.le_of_ble_eq_true rfl) ?_
 intro w0 M0 vs hl hv
 obtain ⟨v0, v1, v2, rfl⟩ := len3 hl
 obtain rfl := hv 2 _ _ rfl rfl
 clear hl hv
 refine nav ?_
 (refine aC_region ?_ <;> refine s_boxa 3 5 fun h3 => ?_ <;> refine s_boxa 4 5 fun h4 => ?_ <;> refine xL 6 q_assign ?_ <;> refine xL 7 q_assign ?_ <;> refine xL 8 q_assign ?_ <;> refine aL_end (nav ?_) <;> try dsimp only)
 (refine aC_region ?_ <;> (refine yL 14 (q_ldao 3 tAgg25_LdS) fun v14 hv14 => ?_; cases hv14) <;> (refine yL 15 (q_ldao 4 tAgg25_LdS) fun v15 hv15 => ?_; cases hv15) <;> (refine cS 16 (cA Tryz.call70 (hf)) fun v16 hv16 => ?_; cases hv16) <;> refine xL 9 q_assign ?_ <;> refine aL_end (nav ?_) <;> try dsimp only)
 (refine aC_region ?_ <;> refine xL 17 q_move ?_ <;> refine xL 18 q_neq ?_ <;> refine aL_end (nav ?_) <;> try dsimp only)
 (first | refine cCd ?_ ?_ | refine cC ?_ ?_) <;> intro hb18
 · refine nav ?_
   (refine aC_region ?_ <;> refine xL 19 q_move ?_ <;> refine xL 6 q_assign ?_ <;> refine xL 7 q_assign ?_ <;> refine xL 8 q_assign ?_ <;> refine aL_end (nav ?_) <;> try dsimp only)
   refine aR_ent (nilSlD (t := 7) rfl) fun _ => ?_
   exact ret_sss (Tryz.results85) rfl rfl rfl rfl
 · exact absurd (by simpa using hb18) he
theorem aCompare_err (a b : Aut) (op e : Int) (he : ¬ e = 0) (hf : AF Tryz.prog 70 [pAut a, pAut b] (· = pInt 0)) (hb : AF Tryz.prog 71 [pAut a, pAut b, pInt op] (· = .tup [pPZ, pInt e])) : AF Tryz.prog 85 [pAut a, pAut b, pInt op] (· = .tup [pBool false, pInts [], pInt e]) := by
 refine AF.of_body 38 Tryz.func85 rfl Tryz.ntmps85 (Nat.le_of_ble_eq_true rfl) ?_
 intro w0 M0 vs hl hv
 obtain ⟨v0, v1, v2, rfl⟩ := len3 hl
 obtain rfl := hv 2 _ _ rfl rfl
 clear hl hv
 refine nav ?_
 (refine aC_region ?_ <;> refine s_boxa 3 5 fun h3 => ?_ <;> refine s_boxa 4 5 fun h4 => ?_ <;> refine xL 6 q_assign ?_ <;> refine xL 7 q_assign ?_ <;> refine xL 8 q_assign ?_ <;> refine aL_end (nav ?_) <;> try dsimp only)
 (refine aC_region ?_ <;> (refine yL 14 (q_ldao 3 tAgg25_LdS) fun v14 hv14 => ?_; cases hv14) <;> (refine yL 15 (q_ldao 4 tAgg25_LdS) fun v15 hv15 => ?_; cases hv15) <;> (refine cS 16 (cA Tryz.call70 (hf)) fun v16 hv16 => ?_; cases hv16) <;> refine xL 9 q_assign ?_ <;> refine aL_end (nav ?_) <;> try dsimp only)
 (refine aC_region ?_ <;> refine xL 17 q_move ?_ <;> refine xL 18 q_neq ?_ <;> refine aL_end (nav ?_) <;> try dsimp only)
 (first | refine cCd ?_ ?_ | refine cC ?_ ?_) <;> intro hb18
 · first | omega | exact absurd rfl hb18 | exact Bool.noConfusion hb18
 · refine nav ?_
   (refine aC_region ?_ <;> (refine yL 21 (q_ldao 3 tAgg25_LdS) fun v21 hv21 => ?_; cases hv21) <;> (refine yL 22 (q_ldao 4 tAgg25_LdS) fun v22 hv22 => ?_; cases hv22) <;> refine xL 23 q_move ?_ <;> (refine cP 24 (cA Tryz.call71 (hb)) fun va24 vb24 hva24 hvb24 => ?_; cases hvb24) <;> refine xL 20 q_move ?_ <;> refine xL 25 q_extract ?_ <;> refine xL 26 q_extract ?_ <;> refine s_alloc [(.int .i64 0), (.slice none 0 0), (.slice none 0 0), (.slice none 0 0), (.slice none 0 0)] 5 10 tZr95_LfP fun h10 => ?_ <;> refine s_sta 10 tAgg95_LfP ?_ <;> refine xL 11 q_assign ?_ <;> refine aL_end (nav ?_) <;> try dsimp only)
   (refine aC_region ?_ <;> refine xL 27 q_move ?_ <;> refine xL 28 q_neq ?_ <;> refine aL_end (nav ?_) <;> try dsimp only)
   (first | refine cCd ?_ ?_ | refine cC ?_ ?_) <;> intro hb28
   · refine nav ?_
     (refine aC_region ?_ <;> refine xL 29 q_move ?_ <;> refine xL 6 q_assign ?_ <;> refine xL 7 q_assign ?_ <;> refine xL 8 q_assign ?_ <;> refine aL_end (nav ?_) <;> try dsimp only)
     refine aR_ent (nilSlD (t := 7) rfl) fun _ => ?_
     exact ret_sss (Tryz.results85) rfl rfl rfl rfl
   · exact absurd (by simpa using hb28) he
theorem aCompare_ok (a b A B : Aut) (op : Int) (q : List PrS × List (List Nat)) (x : List Int) (t : Bool) (hf : AF Tryz.prog 70 [pAut a, pAut b] (· = pInt 0)) (hb : AF Tryz.prog 71 [pAut a, pAut b, pInt op] (· = .tup [pPairs A B op q, pInt 0])) (hg : AF Tryz.prog 115 [pPairs A B op q] (· = .tup [pInts x, pBool t])) : AF Tryz.prog 85 [pAut a, pAut b, pInt op] (· = .tup [pBool (!t), pInts x, pInt 0]) := by
 refine AF.of_body 38 Tryz.func85 rfl Tryz.ntmps85 (Nat.le_of_ble_eq_true rfl) ?_
 intro w0 M0 vs hl hv
 obtain ⟨v0, v1, v2, rfl⟩ := len3 hl
 obtain rfl := hv 2 _ _ rfl rfl
 clear hl hv
 refine nav ?_
 (refine aC_region ?_ <;> refine s_boxa 3 5 fun h3 => ?_ <;> refine s_boxa 4 5 fun h4 => ?_ <;> refine xL 6 q_assign ?_ <;> refine xL 7 q_assign ?_ <;> refine xL 8 q_assign ?_ <;> refine aL_end (nav ?_) <;> try dsimp only)
 (refine aC_region ?_ <;> (refine yL 14 (q_ldao 3 tAgg25_LdS) fun v14 hv14 => ?_; cases hv14) <;> (refine yL 15 (q_ldao 4 tAgg25_LdS) fun v15 hv15 => ?_; cases hv15) <;> (refine cS 16 (cA Tryz.call70 (hf)) fun v16 hv16 => ?_; cases hv16) <;> refine xL 9 q_assign ?_ <;> refine aL_end (nav ?_) <;> try dsimp only)
 (refine aC_region ?_ <;> refine xL 17 q_move ?_ <;> refine xL 18 q_neq ?_ <;> refine aL_end (nav ?_) <;> try dsimp only)
 (first | refine cCd ?_ ?_ | refine cC ?_ ?_) <;> intro hb18
 · first | omega | exact absurd rfl hb18 | exact Bool.noConfusion hb18
 · refine nav ?_
   (refine aC_region ?_ <;> (refine yL 21 (q_ldao 3 tAgg25_LdS) fun v21 hv21 => ?_; cases hv21) <;> (refine yL 22 (q_ldao 4 tAgg25_LdS) fun v22 hv22 => ?_; cases hv22) <;> refine xL 23 q_move ?_ <;> (refine cP 24 (cA Tryz.call71 (hb)) fun va24 vb24 hva24 hvb24 => ?_; cases hvb24) <;> refine xL 20 q_move ?_ <;> refine xL 25 q_extract ?_ <;> refine xL 26 q_extract ?_ <;> refine s_alloc [(.int .i64 0), (.slice none 0 0), (.slice none 0 0), (.slice none 0 0), (.slice none 0 0)] 5 10 tZr95_LfP fun h10 => ?_ <;> refine s_sta 10 tAgg95_LfP ?_ <;> refine xL 11 q_assign ?_ <;> refine aL_end (nav ?_) <;> try dsimp only)
   (refine aC_region ?_ <;> refine xL 27 q_move ?_ <;> refine xL 28 q_neq ?_ <;> refine aL_end (nav ?_) <;> try dsimp only)
   (first | refine cCd ?_ ?_ | refine cC ?_ ?_) <;> intro hb28
   · first | omega | exact absurd rfl hb28 | exact Bool.noConfusion hb28
   · refine nav ?_
     (refine aC_region ?_ <;> (refine yL 31 (q_ldao 10 tAgg95_LfP) fun v31 hv31 => ?_; cases hv31) <;> (refine cP 32 (cA Tryz.call115 (hg)) fun va32 vb32 hva32 hvb32 => ?_; cases hvb32) <;> refine xL 30 q_move ?_ <;> refine xL 33 q_extract ?_ <;> refine xL 34 q_extract ?_ <;> refine xL 12 q_assign ?_ <;> refine xL 13 q_assign ?_ <;> refine aL_end (nav ?_) <;> try dsimp only)
     (refine aC_region ?_ <;> refine xL 35 q_move ?_ <;> refine xL 36 q_not ?_ <;> refine xL 37 q_move ?_ <;> refine xL 6 q_assign ?_ <;> refine xL 7 q_assign ?_ <;> refine xL 8 q_assign ?_ <;> refine aL_end (nav ?_) <;> try dsimp only)
     exact ret_sss (Tryz.results85) rfl rfl rfl rfl
def resC (x : Bool × List Int × Int) : PV := .tup [pBool x.1, pInts x.2.1, pInt x.2.2]
theorem aCompare_e (a b : Aut) (op : Int) : AF Tryz.prog 85 [pAut a, pAut b, pInt op] (· = resC (cmpX a b op)) := by
 have hf := aFit_e a b
 unfold cmpX
 by_cases h0 : fitX a b = 0
 · rw [if_neg (fun h => h h0)]
   have hb := aBoth_e a b op h0
   rw [h0] at hf
   unfold resB at hb
   cases e : bothX a b with
   | error f =>
     rw [e] at hb
     refine aCompare_err a b op f (fun hf0 => ?_) hf hb
     unfold bothX at e
     split at e
     · split at e <;> cases e
       omega
     · cases e; omega
   | ok x =>
     obtain ⟨A, B, o, rows⟩ := x
     rw [e] at hb
     obtain ⟨h1, h2, h3⟩ := fit_zero h0
     unfold bothX at e
     split at e
     · rename_i A' B' ea eb
       split at e
       · rename_i q' eq
         cases e
         obtain ⟨dA, sA⟩ := redX_det (aok_of h1) ea
         obtain ⟨dB, sB⟩ := redX_det (aok_of h2) eb
         have hok := (prod_ok dA dB (by rw [sA, sB, h3]) eq).1
         have hg := aFirst_e A B op o rows eq hok.zero hok.cap
         have := aCompare_ok a b A B op (o, rows) _ _ hf hb hg
         rw [Bool.not_not] at this
         exact this
       · cases e
     · cases e
 · rw [if_pos h0]
   exact aCompare_bad a b op _ h0 hf
theorem aEquivalent_c (a b : Aut) (t : Bool) (l : List Int) (e : Int) (h : AF Tryz.prog 85 [pAut a, pAut b, pInt 4] (· = .tup [pBool t, pInts l, pInt e])) : AF Tryz.prog 33 [pAut a, pAut b] (· = .tup [pBool t, pInts l, pInt e]) := by
 refine AF.of_body 13 Tryz.func33 rfl Tryz.ntmps33 (Nat.le_of_ble_eq_true rfl) ?_
 intro w0 M0 vs hl hv
 obtain ⟨v0, v1, rfl⟩ := len2 hl
 clear hl hv
 refine nav ?_
 (refine aC_region ?_ <;> refine s_boxa 2 5 fun h2 => ?_ <;> refine s_boxa 3 5 fun h3 => ?_ <;> refine xL 4 q_assign ?_ <;> refine xL 5 q_assign ?_ <;> refine xL 6 q_assign ?_ <;> refine aL_end (nav ?_) <;> try dsimp only)
 (refine aC_region ?_ <;> (refine yL 7 (q_ldao 2 tAgg25_LdS) fun v7 hv7 => ?_; cases hv7) <;> (refine yL 8 (q_ldao 3 tAgg25_LdS) fun v8 hv8 => ?_; cases hv8) <;> (refine cPx3 9 (cA Tryz.call85 h) fun va9 vb9 vc9 hva9 hvb9 hvc9 => ?_; cases hva9; cases hvc9) <;> refine xL 10 q_extract ?_ <;> refine xL 11 q_extract ?_ <;> refine xL 12 q_extract ?_ <;> refine xL 4 q_assign ?_ <;> refine xL 5 q_assign ?_ <;> refine xL 6 q_assign ?_ <;> refine aL_end (nav ?_) <;> try dsimp only)
 exact ret_sss (Tryz.results33) rfl rfl rfl rfl
theorem aEquivalent_e (a b : Aut) : AF Tryz.prog 33 [pAut a, pAut b] (· = resC (cmpX a b 4)) := aEquivalent_c a b _ _ _ (aCompare_e a b 4)
theorem ints_one (l : List Int) : (l.map pInt).all En.one = true := by rw [List.all_eq_true]; intro p hp; obtain ⟨z, _, rfl⟩ := List.mem_map.1 hp; rfl
theorem ints_len1 (l : List Int) : (l.map pInt).length = l.length * 1 := by rw [List.length_map, Nat.mul_one]
theorem ints_app (e : Nat) (l m : List Int) : PV.own e 1 (l.length + m.length) (l.map pInt ++ m.map pInt) = .own e 1 (l ++ m).length ((l ++ m).map pInt) := by rw [List.map_append, List.length_append]
theorem fit_vok {a b : Aut} (h : fitX a b = 0) : VOk a ∧ VOk b ∧ a.syms = b.syms := by
 obtain ⟨h1, h2, h3⟩ := fit_zero h
 exact ⟨vok_of h1, vok_of h2, h3⟩
theorem aUnion_bad (a b : Aut) (e : Int) (he : ¬ e = 0) (hf : AF Tryz.prog 70 [pAut a, pAut b] (· = pInt e)) : AF Tryz.prog 40 [pAut a, pAut b] (· = .tup [rawZ, pInt e]) := by
 refine AF.of_body 42 Tryz.func40 rfl Tryz.ntmps40 (Nat.le_of_ble_eq_true rfl) ?_
 intro w0 M0 vs hl hv
 obtain ⟨v0, v1, rfl⟩ := len2 hl
 clear hl hv
 refine nav ?_
 (refine aC_region ?_ <;> refine s_boxa 2 5 fun h2 => ?_ <;> refine s_boxa 3 5 fun h3 => ?_ <;> refine s_alloc [(.int .i64 0), (.int .i64 0), (.slice none 0 0), (.slice none 0 0), (.slice none 0 0)] 5 4 tZr25_LfD fun h4 => ?_ <;> refine xL 5 q_assign ?_ <;> refine aL_end (nav ?_) <;> try dsimp only)
 (refine aC_region ?_ <;> (refine yL 8 (q_ldao 2 tAgg25_LdS) fun v8 hv8 => ?_; cases hv8) <;> (refine yL 9 (q_ldao 3 tAgg25_LdS) fun v9 hv9 => ?_; cases hv9) <;> (refine cS 10 (cA Tryz.call70 (hf)) fun v10 hv10 => ?_; cases hv10) <;> refine xL 6 q_assign ?_ <;> refine aL_end (nav ?_) <;> try dsimp only)
 (refine aC_region ?_ <;> refine xL 11 q_move ?_ <;> refine xL 12 q_neq ?_ <;> refine aL_end (nav ?_) <;> try dsimp only)
 (first | refine cCd ?_ ?_ | refine cC ?_ ?_) <;> intro hb12
 · refine nav ?_
   (refine aC_region ?_ <;> refine xL 13 (q_build tSt25_LfD) ?_ <;> refine xL 14 q_move ?_ <;> refine s_sta 4 tAgg25_LdS ?_ <;> refine xL 5 q_assign ?_ <;> refine aL_end (nav ?_) <;> try dsimp only)
   exact ret_cs (k := 5) 4 (by kernel_rfl) (Tryz.results40) rfl rfl rfl (Nat.le_of_ble_eq_true rfl) (by decide) rfl rfl
 · exact absurd (by simpa using hb12) he
set_option maxHeartbeats 2000000 in
theorem aUnion_g (a b : Aut) (hf0 : fitX a b = 0) {p0 p1 p2 p3 p4 : PV} {E : Int} (r5 : R5 p0 p1 p2 p3 p4) (hr : AF Tryz.prog 83 [pAut (mkA (unionA a b))] (· = .tup [.agg [p0, p1, p2, p3, p4], pInt E])) : AF Tryz.prog 40 [pAut a, pAut b] (· = .tup [.agg [p0, p1, p2, p3, p4], pInt E]) := by
 obtain ⟨o0, o1, o2, o3, o4⟩ := r5.o
 obtain ⟨ha, hb, hs⟩ := fit_vok hf0
 have hf := aFit_e a b
 rw [hf0] at hf
 have hn0 := ha.n0
 have hn1 := ha.n1
 have k1 := ha.sl
 have k2 := hb.sl
 have k3 := ha.fl
 have k4 := hb.fl
 have m1 := hb.n1
 have kml := bsM_len ha.toAOk hb.toAOk
 have l1 := addI_len a.n b.start
 have l2 := addI_len a.n b.fin
 refine AF.of_body 42 Tryz.func40 rfl Tryz.ntmps40 (Nat.le_of_ble_eq_true rfl) ?_
 intro w0 M0 vs hl hv
 obtain ⟨v0, v1, rfl⟩ := len2 hl
 clear hl hv
 refine nav ?_
 (refine aC_region ?_ <;> refine s_boxa 2 5 fun h2 => ?_ <;> refine s_boxa 3 5 fun h3 => ?_ <;> refine s_alloc [(.int .i64 0), (.int .i64 0), (.slice none 0 0), (.slice none 0 0), (.slice none 0 0)] 5 4 tZr25_LfD fun h4 => ?_ <;> refine xL 5 q_assign ?_ <;> refine aL_end (nav ?_) <;> try dsimp only)
 (refine aC_region ?_ <;> (refine yL 8 (q_ldao 2 tAgg25_LdS) fun v8 hv8 => ?_; cases hv8) <;> (refine yL 9 (q_ldao 3 tAgg25_LdS) fun v9 hv9 => ?_; cases hv9) <;> (refine cS 10 (cA Tryz.call70 (hf)) fun v10 hv10 => ?_; cases hv10) <;> refine xL 6 q_assign ?_ <;> refine aL_end (nav ?_) <;> try dsimp only)
 (refine aC_region ?_ <;> refine xL 11 q_move ?_ <;> refine xL 12 q_neq ?_ <;> refine aL_end (nav ?_) <;> try dsimp only)
 (first | refine cCd ?_ ?_ | refine cC ?_ ?_) <;> intro hb12
 · first | omega | exact absurd rfl hb12 | exact Bool.noConfusion hb12
 · refine nav ?_
   (refine aC_region ?_ <;> (refine yL 15 (q_ldao 2 tAgg25_LdS) fun v15 hv15 => ?_; cases hv15) <;> (refine yL 16 (q_ldao 3 tAgg25_LdS) fun v16 hv16 => ?_; cases hv16) <;> (refine aL_ch [2, 3, 4] 17 (Tryz.call93) (aBeside_e a b ha.toAOk hb.toAOk _ _) ?_; rintro V17 _ _ ⟨hM, hMo, rfl, rfl⟩; have qM : En.one (PV.val hM) = true := hMo) <;> refine s_alloc [(.int .i64 0), (.int .i64 0), (.slice none 0 0), (.slice none 0 0), (.slice none 0 0)] 5 7 tZr25_LfD fun h7 => ?_ <;> refine s_sta 7 tAgg25_LdS ?_ <;> refine aL_end (nav ?_) <;> try dsimp only)
   (refine aC_draw (fun i => ([] : List Nat).elem i) [2, 3] (by kernel_rfl) ?_ <;> refine xD 0 18 rfl (q_fldo 2 tFl25_2_LdI) ?_ <;> (refine yD 1 19 rfl (q_ldo 2 tNa22_LdI) fun v19 hv19 => ?_; cases hv19) <;> refine xD 3 21 rfl (q_fldo 3 tFl25_2_LdI) ?_ <;> (refine yD 4 22 rfl (q_ldo 3 tNa22_LdI) fun v22 hv22 => ?_; cases hv22) <;> refine xD 5 23 rfl (q_fldo 2 tFl25_0_LdI) ?_ <;> (refine yD 6 24 rfl (q_ldo 2 tNa3_LbB) fun v24 hv24 => ?_; cases hv24) <;> (refine aD_one 2 (by kernel_rfl) ?_) <;> (refine aW_run rfl fun w9 M9 N9 DQ back => ?_) <;> refine cO 20 (cA Tryz.call51 (cloneIntW_e a.start (by omega))) fun v20 ho20 => ?_ <;> refine aL_end (back _ (nrm ?_)) <;> (refine aD_one 7 (by kernel_rfl) ?_) <;> (refine aW_run rfl fun w9 M9 N9 DQ back => ?_) <;> (refine cO 25 (cA Tryz.call87 (aShifted_e b.start a.n (by omega) (by omega) (fun x hx => by have := hb.st x hx; omega))) fun v25 ho25 => ?_; refine aL_ent (En.freeze (l := 25) (t := 25) rfl rfl) fun _ => ?_; rw [share_ints _ _ _ rfl]) <;> refine aL_end (back _ (nrm ?_)) <;> (refine aD_one 8 (by kernel_rfl) ?_) <;> (refine aW_run rfl fun w9 M9 N9 DQ back => ?_) <;> (refine s_apps 20 26 tEl22_LdI (fun h26 ho26 => ?_) (ints_len1 (addI a.n b.start)) (ints_one (addI a.n b.start)); have q26 : En.one (PV.val h26) = true := ho26) <;> refine aL_end (back _ (nrm ?_)) <;> refine xE 9 27 rfl (q_fldo 7 tFl25_2_LdI) ?_ <;> (refine aD_one 10 (by kernel_rfl) ?_) <;> (refine aW_run rfl fun w9 M9 N9 DQ back => ?_) <;> refine s_st 7 tNa22_LdI tSz22_LdK ?_ <;> refine aL_end (back _ (nrm ?_)) <;> refine aD_end (by kernel_rfl) (nav ?_) <;> try dsimp only)
   refine aC_ent (recast (l := 26) rfl (ints_app _ a.start (addI a.n b.start))) fun _ => ?_
   refine aC_ent (freezeCell (l := 7) (l' := 26) (j := 2) rfl rfl rfl rfl) fun _ => ?_
   rw [share_ints _ _ _ rfl]
   (refine aC_draw (fun i => ([] : List Nat).elem i) [2, 3] (by kernel_rfl) ?_ <;> refine xD 0 28 rfl (q_fldo 2 tFl25_3_LdI) ?_ <;> (refine yD 1 29 rfl (q_ldo 2 tNa22_LdI) fun v29 hv29 => ?_; cases hv29) <;> refine xD 3 31 rfl (q_fldo 3 tFl25_3_LdI) ?_ <;> (refine yD 4 32 rfl (q_ldo 3 tNa22_LdI) fun v32 hv32 => ?_; cases hv32) <;> refine xD 5 33 rfl (q_fldo 2 tFl25_0_LdI) ?_ <;> (refine yD 6 34 rfl (q_ldo 2 tNa3_LbB) fun v34 hv34 => ?_; cases hv34) <;> (refine aD_one 2 (by kernel_rfl) ?_) <;> (refine aW_run rfl fun w9 M9 N9 DQ back => ?_) <;> refine cO 30 (cA Tryz.call51 (cloneIntW_e a.fin (by omega))) fun v30 ho30 => ?_ <;> refine aL_end (back _ (nrm ?_)) <;> (refine aD_one 7 (by kernel_rfl) ?_) <;> (refine aW_run rfl fun w9 M9 N9 DQ back => ?_) <;> (refine cO 35 (cA Tryz.call87 (aShifted_e b.fin a.n (by omega) (by omega) (fun x hx => by have := hb.fi x hx; omega))) fun v35 ho35 => ?_; refine aL_ent (En.freeze (l := 35) (t := 35) rfl rfl) fun _ => ?_; rw [share_ints _ _ _ rfl]) <;> refine aL_end (back _ (nrm ?_)) <;> (refine aD_one 8 (by kernel_rfl) ?_) <;> (refine aW_run rfl fun w9 M9 N9 DQ back => ?_) <;> (refine s_apps 30 36 tEl22_LdI (fun h36 ho36 => ?_) (ints_len1 (addI a.n b.fin)) (ints_one (addI a.n b.fin)); have q36 : En.one (PV.val h36) = true := ho36) <;> refine aL_end (back _ (nrm ?_)) <;> refine xE 9 37 rfl (q_fldo 7 tFl25_3_LdI) ?_ <;> (refine aD_one 10 (by kernel_rfl) ?_) <;> (refine aW_run rfl fun w9 M9 N9 DQ back => ?_) <;> refine s_st 7 tNa22_LdI tSz22_LdK ?_ <;> refine aL_end (back _ (nrm ?_)) <;> refine aD_end (by kernel_rfl) (nav ?_) <;> try dsimp only)
   refine aC_ent (recast (l := 36) rfl (ints_app _ a.fin (addI a.n b.fin))) fun _ => ?_
   refine aC_ent (freezeCell (l := 7) (l' := 36) (j := 3) rfl rfl rfl rfl) fun _ => ?_
   rw [share_ints _ _ _ rfl]
   (refine aC_region ?_ <;> (refine yL 38 (q_ldao (k := 5) (ps := [pInt (a.n + b.n), pInt a.syms, pInts (a.start ++ addI a.n b.start), pInts (a.fin ++ addI a.n b.fin), PV.val hM]) 7 (by kernel_rfl)) fun v38 hv38 => ?_; cases hv38) <;> (refine aL_heap [(1000, hM, PV.own 72 3 (unionA a b).moves.length ((unionA a b).moves.flatMap cMv)), (2, _, _), (3, _, _), (4, _, _), (7, _, _)] ⟨rfl, rfl, rfl, rfl, rfl, trivial⟩ ?_; refine aL_ch [2, 3, 4, 7] 39 (Tryz.call88) (aMade_g (unionA a b) (by show (bsM a b).length ≤ 1000000; omega) (both_nodup ha hb) _ hM hMo r5 hr) ?_; rintro _ _ _ ⟨⟨V1, rfl⟩, rfl, rfl⟩) <;> refine xL 40 q_extract ?_ <;> refine xL 41 q_extract ?_ <;> refine s_sta 4 tAgg25_LdS ?_ <;> refine xL 5 q_assign ?_ <;> refine aL_end (nav ?_) <;> try dsimp only)
   exact ret_cs (k := 5) 4 (by kernel_rfl) (Tryz.results40) rfl rfl rfl (Nat.le_of_ble_eq_true rfl) (by decide) r5.s rfl
theorem aUnion_e (a b : Aut) : AF Tryz.prog 40 [pAut a, pAut b] (· = resW (unionX a b)) := by
 unfold unionX
 by_cases h0 : fitX a b = 0
 · rw [if_neg (fun h => h h0)]
   obtain ⟨ha, hb, hs⟩ := fit_vok h0
   obtain ⟨p0, p1, p2, p3, p4, E, h5, h2, hr⟩ := aReduced_5 (unionA a b) (by have := bsM_len ha.toAOk hb.toAOk; show (bsM a b).length ≤ 1000000; omega) (union_pre ha hb hs)
   rw [h2]; exact aUnion_g a b h0 h5 hr
 · rw [if_pos h0]
   exact aUnion_bad a b _ h0 (aFit_e a b)
theorem flat_takeG {α β : Type} {f : α → List β} {m : Nat} (hf : ∀ x, (f x).length = m) : ∀ (L : List α) (k : Nat), (L.flatMap f).take (k * m) = (L.take k).flatMap f
 | [], k => by simp
 | x :: L, 0 => by simp
 | x :: L, k + 1 => by
   rw [List.take_succ_cons, List.flatMap_cons, List.flatMap_cons, ← flat_takeG hf L k, List.take_append, List.take_of_length_le (by rw [hf, Nat.add_mul]; omega), hf, show (k + 1) * m - m = k * m by rw [Nat.add_mul]; omega]
theorem flat_dropG {α β : Type} {f : α → List β} {m : Nat} (hf : ∀ x, (f x).length = m) : ∀ (L : List α) (k : Nat), (L.flatMap f).drop (k * m) = (L.drop k).flatMap f
 | [], k => by simp
 | x :: L, 0 => by simp
 | x :: L, k + 1 => by
   rw [List.drop_succ_cons, List.flatMap_cons, ← flat_dropG hf L k, List.drop_append, List.drop_of_length_le (by rw [hf, Nat.add_mul]; omega), hf, show (k + 1) * m - m = k * m by rw [Nat.add_mul]; omega, List.nil_append]
theorem mk_asc {l : List Mv} (h : AscM l) : mkM l = l := (mkM_eq h fun _ => Iff.rfl).symm
theorem ins_mk (l : List Mv) (m : Mv) : insM m (mkM l) = mkM (l ++ [m]) := mkM_eq (insM_asc (mkM_asc l)) fun x => by
 rw [insM_mem, mkM_mem, List.mem_append, List.mem_singleton]
 exact ⟨fun h => h.symm, fun h => h.symm⟩
theorem asc_chain : ∀ {l : List Mv}, AscM l → chainB mvLt l = true
 | [], _ => rfl
 | [_], _ => rfl
 | x :: y :: l, h => by
   have h' := List.pairwise_cons.1 h
   rw [chainB, Bool.and_eq_true]
   exact ⟨h'.1 y (List.mem_cons_self ..), asc_chain h'.2⟩
theorem srt_chain : ∀ {l : List Int}, Srt l → chainB ltI l = true
 | [], _ => rfl
 | [_], _ => rfl
 | x :: y :: l, h => by
   have h' := List.pairwise_cons.1 h
   rw [chainB, Bool.and_eq_true]
   exact ⟨by unfold ltI; simpa using h'.1 y (List.mem_cons_self ..), srt_chain h'.2⟩
theorem st_ok {a : Aut} {l : List Int} (h : InS a l) (hs : Srt l) : stOk a.n l = true := by
 unfold stOk
 rw [Bool.and_eq_true, List.all_eq_true]
 refine ⟨fun x hx => ?_, srt_chain hs⟩
 have := h x hx
 simp [this.1, this.2]
theorem ok_mk {a : Aut} (h : PreA a) (hs : Srt a.start) (hf : Srt a.fin) (hn : ¬ 2000 < a.n) (hm : ¬ 20000 < (mkM a.moves).length) : autOk (mkA a) = true := by
 have h1 := h.n0
 have h2 := h.s0
 have h3 := h.s1
 unfold autOk
 simp only [Bool.and_eq_true, decide_eq_true_eq]
 refine ⟨⟨⟨⟨⟨⟨⟨⟨h1, by show a.n ≤ 2000; omega⟩, h2⟩, h3⟩, by show (mkM a.moves).length ≤ 20000; omega⟩, st_ok h.st hs⟩, st_ok h.fi hf⟩, ?_⟩, asc_chain (mkM_asc _)⟩
 rw [List.all_eq_true]
 intro m hm'
 have hm' : m ∈ mkM a.moves := hm'
 have := h.mv m (mkM_mem.1 hm')
 unfold mvOk
 simp only [Bool.and_eq_true, decide_eq_true_eq]
 show ((((0 ≤ m.src ∧ m.src < a.n) ∧ 0 ≤ m.dst) ∧ m.dst < a.n) ∧ -1 ≤ m.sym) ∧ m.sym < a.syms
 omega
def doneX (b : Aut) : Except Int Aut := if 2000 < b.n ∨ 20000 < b.moves.length then .error 13 else minX b
theorem madeX_fin {a : Aut} (h : PreA a) (hs : Srt a.start) (hf : Srt a.fin) : madeX a = doneX (mkA a) := by
 unfold madeX redL doneX minX
 show (if 2000 < a.n ∨ 20000 < (mkM a.moves).length then _ else redX (mkA a)) = (if 2000 < a.n ∨ 20000 < (mkM a.moves).length then _ else _)
 by_cases hb : 2000 < a.n ∨ 20000 < (mkM a.moves).length
 · rw [if_pos hb, if_pos hb]
 · rw [if_neg hb, if_neg hb, if_pos (ok_mk h hs hf (fun h => hb (.inl h)) (fun h => hb (.inr h)))]
section
variable {a b : Aut}
theorem addI_srt {n : Int} {l : List Int} (h : Srt l) : Srt (addI n l) := List.pairwise_map.2 (h.imp fun h => by omega)
theorem fit_srt {l m : List Int} (hl : InS a l) (hm : InS b m) (h1 : Srt l) (h2 : Srt m) : Srt (l ++ addI a.n m) :=
 List.pairwise_append.2 ⟨h1, addI_srt h2, fun x hx y hy => by
  obtain ⟨z, hz, rfl⟩ := mem_addI.1 hy
  have := hl x hx
  have := hm z hz
  omega⟩
theorem addM_asc {n : Int} {l : List Mv} (h : AscM l) : AscM (addM n l) := List.pairwise_map.2 (h.imp fun {x y} h => by
 rw [mvLt_iff] at h ⊢; dsimp only; omega)
theorem both_asc (ha : VOk a) (hb : VOk b) : AscM (a.moves ++ addM a.n b.moves) :=
 List.pairwise_append.2 ⟨ha.ms, addM_asc hb.ms, fun x hx y hy => by
  obtain ⟨z, hz, rfl⟩ := mem_addM.1 hy
  have := ha.mv x hx
  have := hb.mv z hz
  rw [mvLt_iff]; dsimp only; omega⟩
theorem unionX_fin (ha : VOk a) (hb : VOk b) (hs : a.syms = b.syms) : madeX (unionA a b) = doneX (unionA a b) := by
 rw [madeX_fin (union_pre ha hb hs) (fit_srt ha.st hb.st ha.ss hb.ss) (fit_srt ha.fi hb.fi ha.fs hb.fs)]
 unfold mkA
 rw [show mkM (unionA a b).moves = (unionA a b).moves from mk_asc (both_asc ha hb)]
theorem catX_fin (ha : VOk a) (hb : VOk b) (hs : a.syms = b.syms) : madeX (catA a b) = doneX (mkA (catA a b)) := madeX_fin (cat_pre ha hb hs) ha.ss (addI_srt hb.fs)
theorem starX_fin (ha : VOk a) : madeX (starA a) = doneX (mkA (starA a)) := madeX_fin (star_pre ha) (List.pairwise_singleton ..) (List.pairwise_singleton ..)
theorem revX_fin (ha : VOk a) : madeX (revA a) = doneX (mkA (revA a)) := madeX_fin (rev_pre ha) ha.fs ha.ss
theorem cat_len (a b : Aut) : (catA a b).moves.length = a.moves.length + b.moves.length + a.fin.length * b.start.length := by
 show (a.moves ++ addM a.n b.moves ++ epsM a.n a.fin b.start).length = _
 rw [List.length_append, List.length_append, addM_len, epsM_len]
theorem doneX_cat (ha : VOk a) (hb : VOk b) (h : 2000 < a.n + b.n ∨ 20000 < a.moves.length + b.moves.length + a.fin.length * b.start.length) : doneX (mkA (catA a b)) = .error 13 := by
 unfold doneX
 rw [if_pos]
 show 2000 < a.n + b.n ∨ 20000 < (mkM (catA a b).moves).length
 rw [mkM_nd_len (cat_nodup ha hb), cat_len]; exact h
theorem star_asc (ha : VOk a) : AscM (a.moves ++ a.start.map fun s => (⟨a.n, s, -1⟩ : Mv)) :=
 List.pairwise_append.2 ⟨ha.ms, List.pairwise_map.2 (ha.ss.imp fun {x y} h => by rw [mvLt_iff]; dsimp only; omega), fun x hx y hy => by
  obtain ⟨z, hz, rfl⟩ := List.mem_map.1 hy
  have := ha.mv x hx
  rw [mvLt_iff]; dsimp only; omega⟩
end
theorem ins_old {l : List Mv} {m : Mv} (h : AscM l) (hm : m ∈ l) : insM m l = l := ascM_ext (insM_asc h) h fun x => by
 rw [insM_mem]
 exact ⟨fun h => by rcases h with rfl | h <;> assumption, .inr⟩
theorem ins_new {l : List Mv} {m : Mv} {i : Nat} (h : AscM l) (hi : i ≤ l.length) (h1 : ∀ (j : Nat) (x : Mv), i ≤ j → l[j]? = some x → mvLt m x = true) (h2 : ∀ x, 0 < i → l[i - 1]? = some x → mvLt m x = false ∧ x ≠ m) :
 insM m l = l.take i ++ [m] ++ l.drop i := by
 refine ascM_ext (insM_asc h) ?_ fun x => ?_
 · have hlo : ∀ x ∈ l.take i, mvLt x m = true := fun x hx => by
    obtain ⟨j, hj⟩ := List.getElem?_of_mem hx
    have hj' := (List.getElem?_eq_some_iff.1 hj).1
    rw [List.length_take] at hj'
    rw [List.getElem?_take_of_lt (by omega)] at hj
    obtain ⟨y, hy⟩ : ∃ y, l[i - 1]? = some y := ⟨l[i - 1], List.getElem?_eq_getElem (by omega)⟩
    obtain ⟨h3, hym⟩ := h2 y (by omega) hy
    have h4 : mvLt y m = true := by
     cases h5 : mvLt y m with
     | true => rfl
     | false => exact absurd (mvLt_tri h5 h3) hym
    by_cases hji : j = i - 1
    · subst hji; rw [hj] at hy; cases hy; exact h4
    · refine mvLt_tr ?_ h4
      obtain ⟨h6, h7⟩ := List.getElem?_eq_some_iff.1 hj
      obtain ⟨h8, h9⟩ := List.getElem?_eq_some_iff.1 hy
      rw [← h7, ← h9]
      exact List.pairwise_iff_getElem.1 h j (i - 1) h6 h8 (by omega)
   have hhi : ∀ x ∈ l.drop i, mvLt m x = true := fun x hx => by
    obtain ⟨j, hj⟩ := List.getElem?_of_mem hx
    rw [List.getElem?_drop] at hj
    exact h1 (i + j) x (by omega) hj
   have hta : AscM (l.take i) := h.sublist (List.take_sublist ..)
   have hdr : AscM (l.drop i) := h.sublist (List.drop_sublist ..)
   refine List.pairwise_append.2 ⟨List.pairwise_append.2 ⟨hta, List.pairwise_singleton .., fun x hx y hy => by rw [List.mem_singleton.1 hy]; exact hlo x hx⟩, hdr, fun x hx y hy => ?_⟩
   rcases List.mem_append.1 hx with hx | hx
   · exact mvLt_tr (hlo x hx) (hhi y hy)
   · rw [List.mem_singleton.1 hx]; exact hhi y hy
 · rw [insM_mem]
   constructor
   · rintro (rfl | h)
     · simp
     · rw [← List.take_append_drop i l] at h
       rcases List.mem_append.1 h with h | h
       · exact List.mem_append_left _ (List.mem_append_left _ h)
       · exact List.mem_append_right _ h
   · intro h
     rcases List.mem_append.1 h with h | h
     · rcases List.mem_append.1 h with h | h
       · exact .inr (List.mem_of_mem_take h)
       · exact .inl (List.mem_singleton.1 h)
     · exact .inr (List.mem_of_mem_drop h)
def ctM (a b : Aut) (i : Nat) : List Mv := bsM a b ++ epsM a.n (a.fin.take i) b.start
theorem ctM_zero (a b : Aut) : ctM a b 0 = bsM a b := by show bsM a b ++ [] = bsM a b; rw [List.append_nil]
theorem ctM_snoc {a b : Aut} {i : Nat} {f : Int} (h : a.fin[i]? = some f) : ctM a b (i + 1) = ctM a b i ++ epsR a.n f b.start := by unfold ctM; rw [epsM_snoc a.n b.start h, List.append_assoc]
theorem ctM_all (a b : Aut) {i : Nat} (h : a.fin.length ≤ i) : ctM a b i = (catA a b).moves := by unfold ctM; rw [List.take_of_length_le h]; rfl
theorem ct_part {a b : Aut} {i j : Nat} (f : Int) (hi : i < a.fin.length) (hj : j ≤ b.start.length) : (ctM a b i ++ epsR a.n f (b.start.take j)).length ≤ (catA a b).moves.length := by
 rw [cat_len]
 unfold ctM bsM
 rw [List.length_append, List.length_append, List.length_append, addM_len, epsM_len, List.length_take]
 unfold epsR
 rw [List.length_map, List.length_take]
 have h1 : (i + 1) * b.start.length ≤ a.fin.length * b.start.length := Nat.mul_le_mul_right _ hi
 rw [Nat.succ_mul] at h1
 rw [Nat.min_eq_left (Nat.le_of_lt hi), Nat.min_eq_left hj]
 omega
theorem aConcat_bad (a b : Aut) (e : Int) (he : ¬ e = 0) (hf : AF Tryz.prog 70 [pAut a, pAut b] (· = pInt e)) : AF Tryz.prog 42 [pAut a, pAut b] (· = .tup [rawZ, pInt e]) := by
 refine AF.of_body 68 Tryz.func42 rfl Tryz.ntmps42 (Nat.le_of_ble_eq_true rfl) ?_
 intro w0 M0 vs hl hv
 obtain ⟨v0, v1, rfl⟩ := len2 hl
 clear hl hv
 refine nav ?_
 (refine aC_region ?_ <;> refine s_boxa 2 5 fun h2 => ?_ <;> refine s_boxa 3 5 fun h3 => ?_ <;> refine s_alloc [(.int .i64 0), (.int .i64 0), (.slice none 0 0), (.slice none 0 0), (.slice none 0 0)] 5 4 tZr25_LfD fun h4 => ?_ <;> refine xL 5 q_assign ?_ <;> refine aL_end (nav ?_) <;> try dsimp only)
 (refine aC_region ?_ <;> (refine yL 12 (q_ldao 2 tAgg25_LdS) fun v12 hv12 => ?_; cases hv12) <;> (refine yL 13 (q_ldao 3 tAgg25_LdS) fun v13 hv13 => ?_; cases hv13) <;> (refine cS 14 (cA Tryz.call70 (hf)) fun v14 hv14 => ?_; cases hv14) <;> refine xL 6 q_assign ?_ <;> refine aL_end (nav ?_) <;> try dsimp only)
 (refine aC_region ?_ <;> refine xL 15 q_move ?_ <;> refine xL 16 q_neq ?_ <;> refine aL_end (nav ?_) <;> try dsimp only)
 (first | refine cCd ?_ ?_ | refine cC ?_ ?_) <;> intro hb16
 · refine nav ?_
   (refine aC_region ?_ <;> refine xL 17 (q_build tSt25_LfD) ?_ <;> refine xL 18 q_move ?_ <;> refine s_sta 4 tAgg25_LdS ?_ <;> refine xL 5 q_assign ?_ <;> refine aL_end (nav ?_) <;> try dsimp only)
   exact ret_cs (k := 5) 4 (by kernel_rfl) (Tryz.results42) rfl rfl rfl (Nat.le_of_ble_eq_true rfl) (by decide) rfl rfl
 · exact absurd (by simpa using hb16) he
set_option maxHeartbeats 2000000 in
theorem aConcat_g (a b : Aut) (hf0 : fitX a b = 0) {p0 p1 p2 p3 p4 : PV} {E : Int} (r5 : R5 p0 p1 p2 p3 p4) (hr : (catA a b).moves.length ≤ 40001 → AF Tryz.prog 83 [pAut (mkA (catA a b))] (· = .tup [.agg [p0, p1, p2, p3, p4], pInt E])) : AF Tryz.prog 42 [pAut a, pAut b] (fun p => ((catA a b).moves.length ≤ 40001 ∧ p = .tup [.agg [p0, p1, p2, p3, p4], pInt E]) ∨ (20000 < (catA a b).moves.length ∧ p = .tup [rawZ, pInt 13])) := by
 obtain ⟨o0, o1, o2, o3, o4⟩ := r5.o
 obtain ⟨ha, hb, hs⟩ := fit_vok hf0
 have hf := aFit_e a b
 rw [hf0] at hf
 have hn0 := ha.n0
 have hn1 := ha.n1
 have k1 := ha.sl
 have k2 := hb.sl
 have k3 := ha.fl
 have k4 := hb.fl
 have m1 := hb.n1
 have kml := bsM_len ha.toAOk hb.toAOk
 have l2 := addI_len a.n b.fin
 refine AF.of_body 68 Tryz.func42 rfl Tryz.ntmps42 (Nat.le_of_ble_eq_true rfl) ?_
 intro w0 M0 vs hl hv
 obtain ⟨v0, v1, rfl⟩ := len2 hl
 clear hl hv
 refine nav ?_
 (refine aC_region ?_ <;> refine s_boxa 2 5 fun h2 => ?_ <;> refine s_boxa 3 5 fun h3 => ?_ <;> refine s_alloc [(.int .i64 0), (.int .i64 0), (.slice none 0 0), (.slice none 0 0), (.slice none 0 0)] 5 4 tZr25_LfD fun h4 => ?_ <;> refine xL 5 q_assign ?_ <;> refine aL_end (nav ?_) <;> try dsimp only)
 (refine aC_region ?_ <;> (refine yL 12 (q_ldao 2 tAgg25_LdS) fun v12 hv12 => ?_; cases hv12) <;> (refine yL 13 (q_ldao 3 tAgg25_LdS) fun v13 hv13 => ?_; cases hv13) <;> (refine cS 14 (cA Tryz.call70 (hf)) fun v14 hv14 => ?_; cases hv14) <;> refine xL 6 q_assign ?_ <;> refine aL_end (nav ?_) <;> try dsimp only)
 (refine aC_region ?_ <;> refine xL 15 q_move ?_ <;> refine xL 16 q_neq ?_ <;> refine aL_end (nav ?_) <;> try dsimp only)
 (first | refine cCd ?_ ?_ | refine cC ?_ ?_) <;> intro hb16
 · first | omega | exact absurd rfl hb16 | exact Bool.noConfusion hb16
 · refine nav ?_
   (refine aC_region ?_ <;> (refine yL 19 (q_ldao 2 tAgg25_LdS) fun v19 hv19 => ?_; cases hv19) <;> (refine yL 20 (q_ldao 3 tAgg25_LdS) fun v20 hv20 => ?_; cases hv20) <;> (refine aL_ch [2, 3, 4] 21 (Tryz.call93) (aBeside_e a b ha.toAOk hb.toAOk _ _) ?_; rintro V21 _ _ ⟨hM0, hM0o, rfl, rfl⟩; have qM : En.one (PV.val hM0) = true := hM0o) <;> refine s_alloc [(.int .i64 0), (.int .i64 0), (.slice none 0 0), (.slice none 0 0), (.slice none 0 0)] 5 7 tZr25_LfD fun h7 => ?_ <;> refine s_sta 7 tAgg25_LdS ?_ <;> refine aL_end (nav ?_) <;> try dsimp only)
   (refine aC_draw (fun i => ([9, 10, 11] : List Nat).elem i) [2, 3, 7] (by kernel_rfl) ?_ <;> refine xDT 0 22 rfl (q_fldo 2 tFl25_2_LdI) ?_ <;> (refine yDT 1 23 rfl (q_ldo 2 tNa22_LdI) fun v23 hv23 => ?_; cases hv23) <;> refine xDT 3 25 rfl (q_fldo 3 tFl25_3_LdI) ?_ <;> (refine yDT 4 26 rfl (q_ldo 3 tNa22_LdI) fun v26 hv26 => ?_; cases hv26) <;> refine xDT 5 27 rfl (q_fldo 2 tFl25_0_LdI) ?_ <;> (refine yDT 6 28 rfl (q_ldo 2 tNa3_LbB) fun v28 hv28 => ?_; cases hv28) <;> (refine aD_one 2 (by kernel_rfl) ?_) <;> (refine aW_run rfl fun w9 M9 N9 DQ back => ?_) <;> (refine cO 24 (cA Tryz.call51 (cloneIntW_e a.start (by omega))) fun v24 ho24 => ?_; refine aL_ent (En.freeze (l := 24) (t := 24) rfl rfl) fun _ => ?_; rw [share_ints _ _ _ rfl]) <;> refine aL_end (back _ (nrm ?_)) <;> refine xDT 8 30 rfl (q_fldo 7 tFl25_2_LdI) ?_ <;> (refine aD_one 7 (by kernel_rfl) ?_) <;> (refine aW_run rfl fun w9 M9 N9 DQ back => ?_) <;> (refine cO 29 (cA Tryz.call87 (aShifted_e b.fin a.n (by omega) (by omega) (fun x hx => by have := hb.fi x hx; omega))) fun v29 ho29 => ?_; refine aL_ent (En.freeze (l := 29) (t := 29) rfl rfl) fun _ => ?_; rw [share_ints _ _ _ rfl]) <;> refine aL_end (back _ (nrm ?_)) <;> (refine aD_one 9 (by kernel_rfl) ?_) <;> (refine aW_thenZ rfl rfl fun DQ back => ?_) <;> refine s_st 7 tNa22_LdI tSz22_LdK ?_ <;> refine aL_end (back _ ?_) <;> (refine aDZ_one 10 (by kernel_rfl) rfl rfl fun DQ back => ?_) <;> refine xL 31 (q_fldo 7 tFl25_3_LdI) ?_ <;> refine aL_end (back _ ?_) <;> (refine aDZ_one 11 (by kernel_rfl) rfl rfl fun DQ back => ?_) <;> refine s_st 7 tNa22_LdI tSz22_LdK ?_ <;> refine aL_end (back _ ?_) <;> refine aDZ_end (by kernel_rfl) (nav ?_) <;> try dsimp only)
   refine aC_ent (recast (l := 1000) (p' := .own 72 3 (ctM a b 0).length ((ctM a b 0).flatMap cMv)) rfl (by rw [ctM_zero])) fun _ => ?_
   (refine aC_region ?_ <;> refine xL 32 (q_fldo 2 tFl25_3_LdI) ?_ <;> (refine yL 33 (q_ldo 2 tNa22_LdI) fun v33 hv33 => ?_; cases hv33) <;> refine xL 34 (q_len tSl22_LbB) ?_ <;> refine xL 35 q_move ?_ <;> refine aL_end (nav ?_) <;> try dsimp only)
   refine aC_loop (ι := { q : Nat × Value // q.1 ≤ a.fin.length ∧ q.2.oneCell' = true ∧ (ctM a b q.1).length ≤ 40001 }) (fun k => ⟨[(2, _, _), (3, _, _), (4, _, _), (7, _, _), (33, _, _), (34, _, _), (35, .int .i64 k.1.1, pInt k.1.1)], [(2, _, _), (3, _, _), (4, _, _), (7, h7, .own 25 5 1 [pInt (a.n + b.n), pInt a.syms, pInts a.start, pInts (addI a.n b.fin), .val k.1.2]), (1000, k.1.2, .own 72 3 (ctM a b k.1.1).length ((ctM a b k.1.1).flatMap cMv))]⟩) (fun k => a.fin.length - k.1.1) ⟨(0, hM0), Nat.zero_le _, hM0o, by show (ctM a b 0).length ≤ 40001; rw [ctM_zero]; omega⟩ (fun a w H => H.weaken ⟨rfl, rfl, rfl, rfl, rfl, rfl, rfl, trivial⟩ ⟨rfl, rfl, rfl, rfl, rfl, trivial⟩) ?_
   rintro ⟨⟨i, hI⟩, hi, hIo, hIl⟩
   dsimp only
   dsimp only at hi hIo hIl
   have q5 : En.one (PV.val hI) = true := hIo
   refine nav ?_
   (refine aC_region ?_ <;> refine xL 36 q_lss ?_ <;> refine aL_end (nav ?_) <;> try dsimp only)
   (first | refine cCd ?_ ?_ | refine cC ?_ ?_) <;> intro hb36
   · first
     | exact Bool.noConfusion hb36
     | (
      obtain ⟨f, hf⟩ := get_some (show i < a.fin.length by omega)
      have e1 := map_at (f := pInt) hf
      have hfin := ha.fi f (List.mem_of_getElem? hf)
      refine nav ?_
      (refine aC_region ?_ <;> refine xL 37 (q_idxN tSl22_LbB) ?_ <;> (refine yL 38 (q_ld tNa3_LbB) fun v38 hv38 => ?_; cases hv38) <;> refine xL 9 q_assign ?_ <;> refine aL_end (nav ?_) <;> try dsimp only)
      (refine aC_region ?_ <;> refine xL 39 (q_fldo 3 tFl25_2_LdI) ?_ <;> (refine yL 40 (q_ldo 3 tNa22_LdI) fun v40 hv40 => ?_; cases hv40) <;> refine xL 41 (q_len tSl22_LbB) ?_ <;> refine xL 42 q_move ?_ <;> refine aL_end (nav ?_) <;> try dsimp only)
      refine aC_ent (recast (l := 1000) (p' := .own 72 3 (ctM a b i ++ epsR a.n f (b.start.take 0)).length ((ctM a b i ++ epsR a.n f (b.start.take 0)).flatMap cMv)) rfl (by rw [show epsR a.n f (b.start.take 0) = [] from rfl, List.append_nil])) fun _ => ?_
      refine aC_loop (ι := { q : Nat × Value // q.1 ≤ b.start.length ∧ q.2.oneCell' = true ∧ (ctM a b i ++ epsR a.n f (b.start.take q.1)).length ≤ 40001 }) (fun k => ⟨[(2, _, _), (3, _, _), (4, _, _), (7, _, _), (9, _, _), (33, _, _), (34, _, _), (35, _, _), (40, _, _), (41, _, _), (42, .int .i64 k.1.1, pInt k.1.1)], [(2, _, _), (3, _, _), (4, _, _), (7, h7, .own 25 5 1 [pInt (a.n + b.n), pInt a.syms, pInts a.start, pInts (addI a.n b.fin), .val k.1.2]), (1000, k.1.2, .own 72 3 (ctM a b i ++ epsR a.n f (b.start.take k.1.1)).length ((ctM a b i ++ epsR a.n f (b.start.take k.1.1)).flatMap cMv))]⟩) (fun k => b.start.length - k.1.1) ⟨(0, hI), Nat.zero_le _, hIo, by show (ctM a b i ++ []).length ≤ 40001; rw [List.append_nil]; exact hIl⟩ (fun a w H => H.weaken ⟨rfl, rfl, rfl, rfl, rfl, rfl, rfl, rfl, rfl, rfl, rfl, trivial⟩ ⟨rfl, rfl, rfl, rfl, rfl, trivial⟩) ?_
      rintro ⟨⟨j, hJ⟩, hj, hJo, hJl⟩
      dsimp only
      dsimp only at hj hJo hJl
      have q6 : En.one (PV.val hJ) = true := hJo
      refine nav ?_
      (refine aC_region ?_ <;> refine xL 43 q_lss ?_ <;> refine aL_end (nav ?_) <;> try dsimp only)
      (first | refine cCd ?_ ?_ | refine cC ?_ ?_) <;> intro hb43
      · first
        | exact Bool.noConfusion hb43
        | (
         obtain ⟨s, hs⟩ := get_some (show j < b.start.length by omega)
         have e2 := map_at (f := pInt) hs
         have hsin := hb.st s (List.mem_of_getElem? hs)
         have hpart := ct_part f (by omega : i < a.fin.length) hj
         refine nav ?_
         (refine aC_region ?_ <;> refine xL 44 (q_idxN tSl22_LbB) ?_ <;> (refine yL 45 (q_ld tNa3_LbB) fun v45 hv45 => ?_; cases hv45) <;> refine xL 11 q_assign ?_ <;> refine aL_end (nav ?_) <;> try dsimp only)
         (refine aC_region ?_ <;> refine xL 46 (q_fldo 7 tFl25_4_LdI) ?_ <;> (refine yL 47 (q_ldo 7 tNa23_LdI) fun v47 hv47 => ?_; cases hv47) <;> refine xL 48 (q_leno 1000 tSl23_LdI) ?_ <;> refine xL 49 q_gtr ?_ <;> refine aL_end (nav ?_) <;> try dsimp only)
         (first | refine cCd ?_ ?_ | refine cC ?_ ?_) <;> intro hb49
         · first
           | exact Bool.noConfusion hb49
           | (
            refine nav ?_
            (refine aC_region ?_ <;> refine xL 50 (q_build tSt25_LfD) ?_ <;> refine s_sta 4 tAgg25_LdS ?_ <;> refine xL 5 q_assign ?_ <;> refine aL_end (nav ?_) <;> try dsimp only)
            exact ret_cs (k := 5) 4 (by kernel_rfl) (Tryz.results42) rfl rfl rfl (Nat.le_of_ble_eq_true rfl) (by decide) rfl (.inr ⟨by omega, rfl⟩))
         · first
           | exact Bool.noConfusion hb49
           | (
            refine nav ?_
            (refine aC_region ?_ <;> refine xL 51 (q_fldo 7 tFl25_4_LdI) ?_ <;> (refine yL 52 (q_ldo 7 tNa23_LdI) fun v52 hv52 => ?_; cases hv52) <;> refine xL 53 q_move ?_ <;> refine xL 54 q_move ?_ <;> refine xL 55 (q_fldo 2 tFl25_0_LdI) ?_ <;> (refine yL 56 (q_ldo 2 tNa3_LbB) fun v56 hv56 => ?_; cases hv56) <;> refine xL 57 q_add ?_ <;> refine xL 58 (q_build tSt72_LfD) ?_ <;> refine s_lit1a 59 tEl23_LdR fun h59 ho59 => ?_ <;> (refine s_app 1000 59 60 tEl23_LdR fun h60 ho60 => ?_; refine aL_ent (relabel (l := 60) 1000 rfl rfl) fun _ => ?_; refine aL_ent (recast (l := 1000) rfl ((snoc_mv _ (ctM a b i ++ epsR a.n f (b.start.take j)) ⟨f, s + a.n, -1⟩).trans (by rw [List.append_assoc, ← epsR_snoc a.n f hs]))) fun _ => ?_; have q60 : En.one (PV.val h60) = true := ho60) <;> refine xL 61 (q_fldo 7 tFl25_4_LdI) ?_ <;> refine s_st 7 tNa23_LdI tSz23_LdR ?_ <;> refine aL_end (nav ?_) <;> try dsimp only)
            (refine aC_region ?_ <;> refine xL 62 q_add ?_ <;> refine xL 42 q_move ?_ <;> refine aL_end (nav ?_) <;> try dsimp only)
            have hl3 : (ctM a b i ++ epsR a.n f (b.start.take (j + 1))).length ≤ 40001 := by rw [epsR_snoc a.n f hs, ← List.append_assoc, List.length_append, List.length_singleton]; omega
            refine aN_again (
             ⟨(j + 1, h60), lt_of_get hs, ho60, hl3⟩
             ) (by dsimp only; omega) ⟨rfl, rfl, rfl, rfl, rfl, rfl, rfl, rfl, rfl, rfl, rfl, trivial⟩ ⟨rfl, rfl, rfl, rfl, rfl, trivial⟩))
      · first
        | exact Bool.noConfusion hb43
        | (
         have hctS : ctM a b i ++ epsR a.n f (b.start.take j) = ctM a b (i + 1) := by rw [List.take_of_length_le (show b.start.length ≤ j by omega), ctM_snoc hf]
         rw [hctS] at hJl
         refine aC_ent (recast (l := 1000) (p' := .own 72 3 (ctM a b (i + 1)).length ((ctM a b (i + 1)).flatMap cMv)) rfl (by rw [hctS])) fun _ => ?_
         refine nav ?_
         (refine aC_region ?_ <;> refine xL 63 q_add ?_ <;> refine xL 35 q_move ?_ <;> refine aL_end (nav ?_) <;> try dsimp only)
         refine aN_again (
          ⟨(i + 1, hJ), lt_of_get hf, hJo, hJl⟩
          ) (by dsimp only; omega) ⟨rfl, rfl, rfl, rfl, rfl, rfl, rfl, trivial⟩ ⟨rfl, rfl, rfl, rfl, rfl, trivial⟩))
   · first
     | exact Bool.noConfusion hb36
     | (
      have hctA := ctM_all a b (show a.fin.length ≤ i by omega)
      rw [hctA] at hIl
      have hr := hr hIl
      refine aC_ent (recast (l := 1000) (p' := .own 72 3 (catA a b).moves.length ((catA a b).moves.flatMap cMv)) rfl (by rw [hctA])) fun _ => ?_
      refine nav ?_
      (refine aC_region ?_ <;> (refine yL 64 (q_ldao (k := 5) (ps := [pInt (a.n + b.n), pInt a.syms, pInts a.start, pInts (addI a.n b.fin), PV.val hI]) 7 (by kernel_rfl)) fun v64 hv64 => ?_; cases hv64) <;> (refine aL_heap [(1000, hI, PV.own 72 3 (catA a b).moves.length ((catA a b).moves.flatMap cMv)), (2, _, _), (3, _, _), (4, _, _), (7, _, _)] ⟨rfl, rfl, rfl, rfl, rfl, trivial⟩ ?_; refine aL_ch [2, 3, 4, 7] 65 (Tryz.call88) (aMade_g (catA a b) (by omega) (cat_nodup ha hb) _ hI hIo r5 hr) ?_; rintro _ _ _ ⟨⟨V1, rfl⟩, rfl, rfl⟩) <;> refine xL 66 q_extract ?_ <;> refine xL 67 q_extract ?_ <;> refine s_sta 4 tAgg25_LdS ?_ <;> refine xL 5 q_assign ?_ <;> refine aL_end (nav ?_) <;> try dsimp only)
      exact ret_cs (k := 5) 4 (by kernel_rfl) (Tryz.results42) rfl rfl rfl (Nat.le_of_ble_eq_true rfl) (by decide) r5.s (.inl ⟨hIl, rfl⟩))
theorem aConcat_e (a b : Aut) : AF Tryz.prog 42 [pAut a, pAut b] (· = resW (catX a b)) := by
 unfold catX
 by_cases h0 : fitX a b = 0
 · rw [if_neg (fun h => h h0)]
   obtain ⟨ha, hb, hs⟩ := fit_vok h0
   have h13 : 20000 < (catA a b).moves.length → madeX (catA a b) = .error 13 := fun h => by
    rw [catX_fin ha hb hs, doneX_cat ha hb (.inr (by rw [← cat_len]; exact h))]
   rcases Nat.lt_or_ge 40001 (catA a b).moves.length with hl | hl
   · refine (aConcat_g a b h0 R5.raw (E := 13) fun h => by omega).mono fun p hp => ?_
     rw [h13 (by omega)]
     rcases hp with ⟨h, _⟩ | ⟨_, h⟩
     · omega
     · exact h
   · obtain ⟨p0, p1, p2, p3, p4, E, h5, h2, hr⟩ := aReduced_5 (catA a b) (by omega) (cat_pre ha hb hs)
     refine (aConcat_g a b h0 h5 fun _ => hr).mono fun p hp => ?_
     rcases hp with ⟨_, h⟩ | ⟨hl2, h⟩
     · rw [h2]; exact h
     · rw [h13 hl2]; exact h
 · rw [if_pos h0]
   exact aConcat_bad a b _ h0 (aFit_e a b)
theorem mv_at {l : List Mv} {k : Nat} {x : Mv} (h : l[k]? = some x) : (l.flatMap cMv)[k * 3 + 0]? = some (pInt x.src) ∧ (l.flatMap cMv)[k * 3 + 1]? = some (pInt x.dst) ∧ (l.flatMap cMv)[k * 3 + 2]? = some (pInt x.sym) := by
 have e := flat_drop cMv_len l k x h
 have key : ∀ i, i < 3 → (l.flatMap cMv)[k * 3 + i]? = (cMv x)[i]? := fun i hi => by
  rw [← e, List.getElem?_take_of_lt hi, List.getElem?_drop]
 exact ⟨key 0 (by omega), key 1 (by omega), key 2 (by omega)⟩
theorem r07given_ff (a b : Aut) (hla : a.moves.length ≤ 1000000) (hlb : b.moves.length ≤ 1000000) (ha : autOk a = false) (hb : autOk b = false) (hs : True) : AF Tryz.prog 89 [pAut a, pAut b] (· = pInt 1) := by
 have hva := r07Valid_e a hla
 have hvb := r07Valid_e b hlb
 rw [ha] at hva
 rw [hb] at hvb
 refine AF.of_body 18 Tryz.func89 rfl Tryz.ntmps89 (Nat.le_of_ble_eq_true rfl) ?_
 intro w0 M0 vs hl hv
 obtain ⟨v0, v1, rfl⟩ := len2 hl
 clear hl hv
 refine nav ?_
 (refine aC_region ?_ <;> refine s_boxa 2 5 fun h2 => ?_ <;> refine s_boxa 3 5 fun h3 => ?_ <;> refine xL 4 q_assign ?_ <;> refine aL_end (nav ?_) <;> try dsimp only)
 (refine aC_region ?_ <;> (refine yL 5 (q_ldao 2 tAgg25_LdS) fun v5 hv5 => ?_; cases hv5) <;> (refine cS 6 (cA Tryz.call25 (hva)) fun v6 hv6 => ?_; cases hv6) <;> refine xL 7 q_not ?_ <;> refine xL 8 q_move ?_ <;> refine kL 9 ?_ <;> refine kL 10 ?_ <;> refine kL 11 ?_ <;> refine xL 12 q_pick ?_ <;> refine aL_end (nav ?_) <;> try dsimp only) <;> (
  (first | refine cCd ?_ ?_ | refine cC ?_ ?_) <;> intro hb12
  · first
    | exact Bool.noConfusion hb12
    | (
     refine nav ?_
     (refine aC_region ?_ <;> refine xL 4 q_assign ?_ <;> refine aL_end (nav ?_) <;> try dsimp only)
     exact ret_shr (Tryz.results89) rfl rfl)
  · first
    | exact Bool.noConfusion hb12
    | skip)
theorem r07given_ft (a b : Aut) (hla : a.moves.length ≤ 1000000) (hlb : b.moves.length ≤ 1000000) (ha : autOk a = false) (hb : autOk b = true) (hs : True) : AF Tryz.prog 89 [pAut a, pAut b] (· = pInt 1) := by
 have hva := r07Valid_e a hla
 have hvb := r07Valid_e b hlb
 rw [ha] at hva
 rw [hb] at hvb
 refine AF.of_body 18 Tryz.func89 rfl Tryz.ntmps89 (Nat.le_of_ble_eq_true rfl) ?_
 intro w0 M0 vs hl hv
 obtain ⟨v0, v1, rfl⟩ := len2 hl
 clear hl hv
 refine nav ?_
 (refine aC_region ?_ <;> refine s_boxa 2 5 fun h2 => ?_ <;> refine s_boxa 3 5 fun h3 => ?_ <;> refine xL 4 q_assign ?_ <;> refine aL_end (nav ?_) <;> try dsimp only)
 (refine aC_region ?_ <;> (refine yL 5 (q_ldao 2 tAgg25_LdS) fun v5 hv5 => ?_; cases hv5) <;> (refine cS 6 (cA Tryz.call25 (hva)) fun v6 hv6 => ?_; cases hv6) <;> refine xL 7 q_not ?_ <;> refine xL 8 q_move ?_ <;> refine kL 9 ?_ <;> refine kL 10 ?_ <;> refine kL 11 ?_ <;> refine xL 12 q_pick ?_ <;> refine aL_end (nav ?_) <;> try dsimp only) <;> (
  (first | refine cCd ?_ ?_ | refine cC ?_ ?_) <;> intro hb12
  · first
    | exact Bool.noConfusion hb12
    | (
     refine nav ?_
     (refine aC_region ?_ <;> refine xL 4 q_assign ?_ <;> refine aL_end (nav ?_) <;> try dsimp only)
     exact ret_shr (Tryz.results89) rfl rfl)
  · first
    | exact Bool.noConfusion hb12
    | skip)
theorem r07given_tf (a b : Aut) (hla : a.moves.length ≤ 1000000) (hlb : b.moves.length ≤ 1000000) (ha : autOk a = true) (hb : autOk b = false) (hs : True) : AF Tryz.prog 89 [pAut a, pAut b] (· = pInt 1) := by
 have hva := r07Valid_e a hla
 have hvb := r07Valid_e b hlb
 rw [ha] at hva
 rw [hb] at hvb
 refine AF.of_body 18 Tryz.func89 rfl Tryz.ntmps89 (Nat.le_of_ble_eq_true rfl) ?_
 intro w0 M0 vs hl hv
 obtain ⟨v0, v1, rfl⟩ := len2 hl
 clear hl hv
 refine nav ?_
 (refine aC_region ?_ <;> refine s_boxa 2 5 fun h2 => ?_ <;> refine s_boxa 3 5 fun h3 => ?_ <;> refine xL 4 q_assign ?_ <;> refine aL_end (nav ?_) <;> try dsimp only)
 (refine aC_region ?_ <;> (refine yL 5 (q_ldao 2 tAgg25_LdS) fun v5 hv5 => ?_; cases hv5) <;> (refine cS 6 (cA Tryz.call25 (hva)) fun v6 hv6 => ?_; cases hv6) <;> refine xL 7 q_not ?_ <;> refine xL 8 q_move ?_ <;> (refine yL 9 (q_ldao 3 tAgg25_LdS) fun v9 hv9 => ?_; cases hv9) <;> (refine cS 10 (cA Tryz.call25 (hvb)) fun v10 hv10 => ?_; cases hv10) <;> refine xL 11 q_not ?_ <;> refine xL 12 q_pick ?_ <;> refine aL_end (nav ?_) <;> try dsimp only) <;> (
  (first | refine cCd ?_ ?_ | refine cC ?_ ?_) <;> intro hb12
  · first
    | exact Bool.noConfusion hb12
    | (
     refine nav ?_
     (refine aC_region ?_ <;> refine xL 4 q_assign ?_ <;> refine aL_end (nav ?_) <;> try dsimp only)
     exact ret_shr (Tryz.results89) rfl rfl)
  · first
    | exact Bool.noConfusion hb12
    | skip)
theorem r07given_tn (a b : Aut) (hla : a.moves.length ≤ 1000000) (hlb : b.moves.length ≤ 1000000) (ha : autOk a = true) (hb : autOk b = true) (hs : ¬ a.syms = b.syms) : AF Tryz.prog 89 [pAut a, pAut b] (· = pInt 29) := by
 have hva := r07Valid_e a hla
 have hvb := r07Valid_e b hlb
 rw [ha] at hva
 rw [hb] at hvb
 refine AF.of_body 18 Tryz.func89 rfl Tryz.ntmps89 (Nat.le_of_ble_eq_true rfl) ?_
 intro w0 M0 vs hl hv
 obtain ⟨v0, v1, rfl⟩ := len2 hl
 clear hl hv
 refine nav ?_
 (refine aC_region ?_ <;> refine s_boxa 2 5 fun h2 => ?_ <;> refine s_boxa 3 5 fun h3 => ?_ <;> refine xL 4 q_assign ?_ <;> refine aL_end (nav ?_) <;> try dsimp only)
 (refine aC_region ?_ <;> (refine yL 5 (q_ldao 2 tAgg25_LdS) fun v5 hv5 => ?_; cases hv5) <;> (refine cS 6 (cA Tryz.call25 (hva)) fun v6 hv6 => ?_; cases hv6) <;> refine xL 7 q_not ?_ <;> refine xL 8 q_move ?_ <;> (refine yL 9 (q_ldao 3 tAgg25_LdS) fun v9 hv9 => ?_; cases hv9) <;> (refine cS 10 (cA Tryz.call25 (hvb)) fun v10 hv10 => ?_; cases hv10) <;> refine xL 11 q_not ?_ <;> refine xL 12 q_pick ?_ <;> refine aL_end (nav ?_) <;> try dsimp only) <;> (
  (first | refine cCd ?_ ?_ | refine cC ?_ ?_) <;> intro hb12
  · first
    | exact Bool.noConfusion hb12
    | (
     refine nav ?_
     (refine aC_region ?_ <;> refine xL 4 q_assign ?_ <;> refine aL_end (nav ?_) <;> try dsimp only)
     exact ret_shr (Tryz.results89) rfl rfl)
  · first
    | exact Bool.noConfusion hb12
    | (
     refine nav ?_
     (refine aC_region ?_ <;> refine xL 13 (q_fldo 2 tFl25_1_LdI) ?_ <;> (refine yL 14 (q_ldo 2 tNa3_LbB) fun v14 hv14 => ?_; cases hv14) <;> refine xL 15 (q_fldo 3 tFl25_1_LdI) ?_ <;> (refine yL 16 (q_ldo 3 tNa3_LbB) fun v16 hv16 => ?_; cases hv16) <;> refine xL 17 q_neq ?_ <;> refine aL_end (nav ?_) <;> try dsimp only)
     (first | refine cCd ?_ ?_ | refine cC ?_ ?_) <;> intro hb17
     · first
       | exact Bool.noConfusion hb17
       | (
        refine nav ?_
        (refine aC_region ?_ <;> refine xL 4 q_assign ?_ <;> refine aL_end (nav ?_) <;> try dsimp only)
        first | exact ret_shr (Tryz.results89) rfl rfl | exact absurd hs (by simpa using hb17))
     · first
       | exact Bool.noConfusion hb17
       | (
        refine nav ?_
        (refine aC_region ?_ <;> refine xL 4 q_assign ?_ <;> refine aL_end (nav ?_) <;> try dsimp only)
        first | exact ret_shr (Tryz.results89) rfl rfl | exact absurd (by simpa using hb17) hs)))
theorem r07given_tt (a b : Aut) (hla : a.moves.length ≤ 1000000) (hlb : b.moves.length ≤ 1000000) (ha : autOk a = true) (hb : autOk b = true) (hs : a.syms = b.syms) : AF Tryz.prog 89 [pAut a, pAut b] (· = pInt 0) := by
 have hva := r07Valid_e a hla
 have hvb := r07Valid_e b hlb
 rw [ha] at hva
 rw [hb] at hvb
 refine AF.of_body 18 Tryz.func89 rfl Tryz.ntmps89 (Nat.le_of_ble_eq_true rfl) ?_
 intro w0 M0 vs hl hv
 obtain ⟨v0, v1, rfl⟩ := len2 hl
 clear hl hv
 refine nav ?_
 (refine aC_region ?_ <;> refine s_boxa 2 5 fun h2 => ?_ <;> refine s_boxa 3 5 fun h3 => ?_ <;> refine xL 4 q_assign ?_ <;> refine aL_end (nav ?_) <;> try dsimp only)
 (refine aC_region ?_ <;> (refine yL 5 (q_ldao 2 tAgg25_LdS) fun v5 hv5 => ?_; cases hv5) <;> (refine cS 6 (cA Tryz.call25 (hva)) fun v6 hv6 => ?_; cases hv6) <;> refine xL 7 q_not ?_ <;> refine xL 8 q_move ?_ <;> (refine yL 9 (q_ldao 3 tAgg25_LdS) fun v9 hv9 => ?_; cases hv9) <;> (refine cS 10 (cA Tryz.call25 (hvb)) fun v10 hv10 => ?_; cases hv10) <;> refine xL 11 q_not ?_ <;> refine xL 12 q_pick ?_ <;> refine aL_end (nav ?_) <;> try dsimp only) <;> (
  (first | refine cCd ?_ ?_ | refine cC ?_ ?_) <;> intro hb12
  · first
    | exact Bool.noConfusion hb12
    | (
     refine nav ?_
     (refine aC_region ?_ <;> refine xL 4 q_assign ?_ <;> refine aL_end (nav ?_) <;> try dsimp only)
     exact ret_shr (Tryz.results89) rfl rfl)
  · first
    | exact Bool.noConfusion hb12
    | (
     refine nav ?_
     (refine aC_region ?_ <;> refine xL 13 (q_fldo 2 tFl25_1_LdI) ?_ <;> (refine yL 14 (q_ldo 2 tNa3_LbB) fun v14 hv14 => ?_; cases hv14) <;> refine xL 15 (q_fldo 3 tFl25_1_LdI) ?_ <;> (refine yL 16 (q_ldo 3 tNa3_LbB) fun v16 hv16 => ?_; cases hv16) <;> refine xL 17 q_neq ?_ <;> refine aL_end (nav ?_) <;> try dsimp only)
     (first | refine cCd ?_ ?_ | refine cC ?_ ?_) <;> intro hb17
     · first
       | exact Bool.noConfusion hb17
       | (
        refine nav ?_
        (refine aC_region ?_ <;> refine xL 4 q_assign ?_ <;> refine aL_end (nav ?_) <;> try dsimp only)
        first | exact ret_shr (Tryz.results89) rfl rfl | exact absurd hs (by simpa using hb17))
     · first
       | exact Bool.noConfusion hb17
       | (
        refine nav ?_
        (refine aC_region ?_ <;> refine xL 4 q_assign ?_ <;> refine aL_end (nav ?_) <;> try dsimp only)
        first | exact ret_shr (Tryz.results89) rfl rfl | exact absurd (by simpa using hb17) hs)))
theorem r07given_e (a b : Aut) (hla : a.moves.length ≤ 1000000) (hlb : b.moves.length ≤ 1000000) : AF Tryz.prog 89 [pAut a, pAut b] (· = pInt (fitX a b)) := by
 cases ha : autOk a
 · rw [fit_no1 ha]
   cases hb : autOk b
   · exact r07given_ff a b hla hlb ha hb trivial
   · exact r07given_ft a b hla hlb ha hb trivial
 · cases hb : autOk b
   · rw [fit_no2 hb]; exact r07given_tf a b hla hlb ha hb trivial
   · by_cases hs : a.syms = b.syms
     · rw [fit_ok ha hb hs]; exact r07given_tt a b hla hlb ha hb hs
     · rw [fit_ne ha hb hs]; exact r07given_tn a b hla hlb ha hb hs
theorem r07added_e (l : List Int) (n : Int) (hl : l.length ≤ 1000000) (hn : 0 ≤ n ∧ n ≤ 1000000) (hb : ∀ x ∈ l, 0 ≤ x ∧ x ≤ 1000000) : AF Tryz.prog 94 [pInts l, pInt n] (· = .own 3 1 (addI n l).length ((addI n l).map pInt)) := by
 refine AF.of_body 24 Tryz.func94 rfl Tryz.ntmps94 (Nat.le_of_ble_eq_true rfl) ?_
 intro w0 M0 vs hl hv
 obtain ⟨v0, v1, rfl⟩ := len2 hl
 obtain rfl := hv 1 _ _ rfl rfl
 clear hl hv
 refine nav ?_
 (refine aC_region ?_ <;> refine xL 4 q_assign ?_ <;> refine aL_end (nav ?_) <;> try dsimp only)
 (refine aC_region ?_ <;> refine s_lit0 7 tEl22_LdI fun h7 ho7 => ?_ <;> refine xL 5 q_assign ?_ <;> refine aL_end (nav ?_) <;> try dsimp only)
 refine aC_ent (relabel (l := 7) 200 rfl rfl) fun _ => ?_
 (refine aC_region ?_ <;> refine xL 6 q_assign ?_ <;> refine aL_end (nav ?_) <;> try dsimp only)
 refine aC_loop (ι := { q : Nat × Value // q.1 ≤ l.length ∧ q.2.oneCell' = true }) (fun k => ⟨[(0, _, _), (1, _, _), (5, k.1.2, .val k.1.2), (6, .int .i64 k.1.1, pInt k.1.1)], [(200, k.1.2, .own 3 1 (addI n (l.take k.1.1)).length ((addI n (l.take k.1.1)).map pInt))]⟩) (fun k => l.length - k.1.1) ⟨(0, h7), Nat.zero_le _, ho7⟩ (fun a w H => H.weaken ⟨rfl, rfl, rfl, rfl, trivial⟩ ⟨rfl, trivial⟩) ?_
 rintro ⟨⟨k, hO⟩, hk, hOo⟩
 dsimp only
 dsimp only at hk hOo
 have hal : (addI n (l.take k)).length ≤ 1000000 := by rw [addI_len, List.length_take]; omega
 refine nav ?_
 (refine aC_region ?_ <;> refine xL 8 q_move ?_ <;> refine xL 9 q_move ?_ <;> refine xL 10 (q_len tSl22_LbB) ?_ <;> refine xL 11 q_lss ?_ <;> refine aL_end (nav ?_) <;> try dsimp only)
 (first | refine cCd ?_ ?_ | refine cC ?_ ?_) <;> intro hb11
 · first
   | exact Bool.noConfusion hb11
   | (
    obtain ⟨x, hx⟩ := get_some (show k < l.length by omega)
    have e1 := map_at (f := pInt) hx
    have hxb := hb x (List.mem_of_getElem? hx)
    refine nav ?_
    (refine aC_region ?_ <;> refine xL 14 q_move ?_ <;> refine xL 15 q_move ?_ <;> refine xL 16 q_move ?_ <;> refine xL 17 (q_idxN tSl22_LbB) ?_ <;> (refine yL 18 (q_ld tNa3_LbB) fun v18 hv18 => ?_; cases hv18) <;> refine xL 19 q_move ?_ <;> refine xL 20 q_add ?_ <;> refine s_lit1 (kk := 1) 21 tEl22_LdI fun h21 ho21 => ?_ <;> (refine s_app 200 21 22 tEl22_LdI fun h22 ho22 => ?_; refine aL_ent (relabel (l := 22) 200 rfl rfl) fun _ => ?_; refine aL_ent (recast (l := 200) rfl ((own_ints _ (addI n (l.take k)) (x + n)).trans (by rw [← addI_snoc n hx]))) fun _ => ?_) <;> refine xL 5 q_assign ?_ <;> refine aL_end (nav ?_) <;> try dsimp only)
    (refine aC_region ?_ <;> refine xL 12 q_move ?_ <;> refine xL 13 q_add ?_ <;> refine xL 6 q_assign ?_ <;> refine aL_end (nav ?_) <;> try dsimp only)
    refine aN_again (
     ⟨(k + 1, h22), lt_of_get hx, ho22⟩
     ) (by dsimp only; omega) ⟨rfl, rfl, rfl, rfl, trivial⟩ ⟨rfl, trivial⟩)
 · first
   | exact Bool.noConfusion hb11
   | (
    rw [List.take_of_length_le (show l.length ≤ k by omega)]
    refine nav ?_
    (refine aC_region ?_ <;> refine xL 23 q_move ?_ <;> refine xL 4 q_assign ?_ <;> refine aL_end (nav ?_) <;> try dsimp only)
    exact ret_own 200 (Tryz.results94) rfl rfl rfl)
theorem r07moved_e (b : Aut) (n : Int) (hb : AOk b) (hn : 0 ≤ n ∧ n ≤ 1000000) : AF Tryz.prog 95 [pMvs b.moves, pInt n] (· = .own 72 3 (addM n b.moves).length ((addM n b.moves).flatMap cMv)) := by
 have hn1 := hb.n1
 have hbl := hb.ml
 refine AF.of_body 38 Tryz.func95 rfl Tryz.ntmps95 (Nat.le_of_ble_eq_true rfl) ?_
 intro w0 M0 vs hl hv
 obtain ⟨v0, v1, rfl⟩ := len2 hl
 obtain rfl := hv 1 _ _ rfl rfl
 clear hl hv
 refine nav ?_
 (refine aC_region ?_ <;> refine xL 4 q_assign ?_ <;> refine aL_end (nav ?_) <;> try dsimp only)
 (refine aC_region ?_ <;> refine s_lit0 7 tEl23_LdR fun h7 ho7 => ?_ <;> refine xL 5 q_assign ?_ <;> refine aL_end (nav ?_) <;> try dsimp only)
 refine aC_ent (relabel (l := 7) 200 rfl rfl) fun _ => ?_
 (refine aC_region ?_ <;> refine xL 6 q_assign ?_ <;> refine aL_end (nav ?_) <;> try dsimp only)
 refine aC_loop (ι := { q : Nat × Value // q.1 ≤ b.moves.length ∧ q.2.oneCell' = true }) (fun k => ⟨[(0, _, _), (1, _, _), (5, k.1.2, .val k.1.2), (6, .int .i64 k.1.1, pInt k.1.1)], [(200, k.1.2, .own 72 3 (addM n (b.moves.take k.1.1)).length ((addM n (b.moves.take k.1.1)).flatMap cMv))]⟩) (fun k => b.moves.length - k.1.1) ⟨(0, h7), Nat.zero_le _, ho7⟩ (fun a w H => H.weaken ⟨rfl, rfl, rfl, rfl, trivial⟩ ⟨rfl, trivial⟩) ?_
 rintro ⟨⟨k, hO⟩, hk, hOo⟩
 dsimp only
 dsimp only at hk hOo
 have hal : (addM n (b.moves.take k)).length ≤ 1000000 := by rw [addM_len, List.length_take]; omega
 refine nav ?_
 (refine aC_region ?_ <;> refine xL 8 q_move ?_ <;> refine xL 9 q_move ?_ <;> refine xL 10 (q_len tSl23_LdI) ?_ <;> refine xL 11 q_lss ?_ <;> refine aL_end (nav ?_) <;> try dsimp only)
 (first | refine cCd ?_ ?_ | refine cC ?_ ?_) <;> intro hb11
 · first
   | exact Bool.noConfusion hb11
   | (
    obtain ⟨x, hx⟩ := get_some (show k < b.moves.length by omega)
    obtain ⟨e0, e1, e2⟩ := mv_at hx
    have hxb := hb.mv x (List.mem_of_getElem? hx)
    refine nav ?_
    (refine aC_draw (fun i => ([] : List Nat).elem i) [] (by kernel_rfl) ?_ <;> refine xD 0 14 rfl q_move ?_ <;> refine xD 1 15 rfl q_move ?_ <;> refine xD 2 16 rfl q_move ?_ <;> refine xD 3 17 rfl (q_idxN tSl23_LdI) ?_ <;> refine xD 4 18 rfl (q_fld tFl72_0_LdI) ?_ <;> (refine yD 5 19 rfl (q_ld tNa3_LbB) fun v19 hv19 => ?_; cases hv19) <;> refine xD 6 20 rfl q_move ?_ <;> refine xD 7 21 rfl q_add ?_ <;> refine xD 8 22 rfl q_move ?_ <;> refine xD 9 23 rfl q_move ?_ <;> refine xD 10 24 rfl (q_idxN tSl23_LdI) ?_ <;> refine xD 11 25 rfl (q_fld tFl72_1_LdI) ?_ <;> (refine yD 12 26 rfl (q_ld tNa3_LbB) fun v26 hv26 => ?_; cases hv26) <;> refine xD 13 27 rfl q_move ?_ <;> refine xD 14 28 rfl q_add ?_ <;> refine xD 15 29 rfl q_move ?_ <;> refine xE 16 30 rfl q_move ?_ <;> refine xE 17 31 rfl (q_idxN tSl23_LdI) ?_ <;> refine xE 18 32 rfl (q_fld tFl72_2_LdI) ?_ <;> (refine yE 19 33 rfl (q_ld tNa3_LbB) fun v33 hv33 => ?_; cases hv33) <;> refine xE 20 34 rfl (q_build tSt72_LfD) ?_ <;> (refine aD_one 21 (by kernel_rfl) ?_) <;> (refine aW_run rfl fun w9 M9 N9 DQ back => ?_) <;> refine s_lit1a 35 tEl23_LdR fun h35 ho35 => ?_ <;> refine aL_end (back _ (nrm ?_)) <;> (refine aD_one 22 (by kernel_rfl) ?_) <;> (refine aW_run rfl fun w9 M9 N9 DQ back => ?_) <;> (refine s_app 200 35 36 tEl23_LdR fun h36 ho36 => ?_; refine aL_ent (relabel (l := 36) 200 rfl rfl) fun _ => ?_; refine aL_ent (recast (l := 200) rfl ((snoc_mv _ (addM n (b.moves.take k)) ⟨x.src + n, x.dst + n, x.sym⟩).trans (by rw [← addM_snoc n hx]))) fun _ => ?_) <;> refine aL_end (back _ (nrm ?_)) <;> refine xE 23 5 rfl q_assign ?_ <;> refine aD_end (by kernel_rfl) (nav ?_) <;> try dsimp only)
    (refine aC_region ?_ <;> refine xL 12 q_move ?_ <;> refine xL 13 q_add ?_ <;> refine xL 6 q_assign ?_ <;> refine aL_end (nav ?_) <;> try dsimp only)
    refine aN_again (
     ⟨(k + 1, h36), lt_of_get hx, ho36⟩
     ) (by dsimp only; omega) ⟨rfl, rfl, rfl, rfl, trivial⟩ ⟨rfl, trivial⟩)
 · first
   | exact Bool.noConfusion hb11
   | (
    rw [List.take_of_length_le (show b.moves.length ≤ k by omega)]
    refine nav ?_
    (refine aC_region ?_ <;> refine xL 37 q_move ?_ <;> refine xL 4 q_assign ?_ <;> refine aL_end (nav ?_) <;> try dsimp only)
    exact ret_own 200 (Tryz.results95) rfl rfl rfl)
theorem r07insert_e (l : List Mv) (m : Mv) (hl : l.length ≤ 1000000) (ha : AscM l) : AF Tryz.prog 91 [pMvs l, .agg (cMv m)] (· = pMvs (insM m l)) := by
 refine AF.of_body 47 Tryz.func91 rfl Tryz.ntmps91 (Nat.le_of_ble_eq_true rfl) ?_
 intro w0 M0 vs hl hv
 obtain ⟨v0, v1, rfl⟩ := len2 hl
 clear hl hv
 refine aC_slen 0 rfl fun hlen => ?_
 refine nav ?_
 (refine aC_region ?_ <;> refine s_boxa 3 3 fun h3 => ?_ <;> refine xL 4 q_assign ?_ <;> refine aL_end (nav ?_) <;> try dsimp only)
 (refine aC_region ?_ <;> refine xL 7 q_move ?_ <;> refine xL 8 (q_len tSl23_LdI) ?_ <;> refine xL 5 q_assign ?_ <;> refine aL_end (nav ?_) <;> try dsimp only)
 refine aC_loop (ι := { i : Nat // i ≤ l.length ∧ ∀ (j : Nat) (x : Mv), i ≤ j → l[j]? = some x → mvLt m x = true }) (fun k => ⟨[(0, _, _), (3, _, _), (5, .int .i64 k.1, pInt k.1)], [(3, _, _)]⟩) (fun k => k.1) ⟨l.length, Nat.le_refl _, fun j x h1 h2 => by have := lt_of_get h2; omega⟩ (fun a w H => H.weaken ⟨rfl, rfl, rfl, trivial⟩ ⟨rfl, trivial⟩) ?_
 rintro ⟨i, hi, hp⟩
 dsimp only
 obtain ⟨x, hx⟩ : ∃ x : Mv, 0 < i → l[((i : Int) - 1).toNat]? = some x := by
  rcases Nat.eq_zero_or_pos i with h0 | h0
  · exact ⟨m, fun h => by omega⟩
  · obtain ⟨x, hx⟩ := get_some (show ((i : Int) - 1).toNat < l.length by omega)
    exact ⟨x, fun _ => hx⟩
 have hi1 : ((i : Int) - 1).toNat = i - 1 := by omega
 refine nav ?_
 (refine aC_draw (fun i => ([] : List Nat).elem i) [3] (by kernel_rfl) ?_ <;> refine xE 0 9 rfl q_move ?_ <;> refine xE 1 10 rfl q_gtr ?_ <;> refine xE 2 11 rfl q_move ?_ <;> (refine bDd 11 (fun hb11 => ?_) (fun hb11 => ?_) <;> (first | refine kD 3 12 rfl ?_ | (have hx2 := hx (by omega); have e1 := flat_drop cMv_len l ((i : Int) - 1).toNat x hx2; have e2 := flat_fit cMv_len hx2; refine yD 3 12 rfl (q_ldao (k := 3) (ps := cMv m) 3 (by kernel_rfl)) fun v12 hv12 => ?_; cases hv12))) <;> (first | refine kD 4 13 rfl ?_ | refine xD 4 13 rfl q_move ?_) <;> (first | refine kD 5 14 rfl ?_ | refine xD 5 14 rfl q_move ?_) <;> (first | refine kD 6 15 rfl ?_ | refine xD 6 15 rfl q_sub ?_) <;> (first | refine kD 7 16 rfl ?_ | refine xD 7 16 rfl (q_idx tSl23_LdI) ?_) <;> (first | refine kD 8 17 rfl ?_ | (refine yD 8 17 rfl (q_lda tAgg72_LdI) fun v17 hv17 => ?_; cases hv17)) <;> (refine aD_one 9 (by kernel_rfl) ?_) <;> (first | (refine aW_call (d := 18) rfl (cA Tryz.call81 (r07before_e m x)) fun v18 hv18 => ?_; cases hv18) | (refine aW_run rfl fun w9 M9 N9 DQ back => ?_; refine kL 18 ?_; refine aL_end (back _ (nrm ?_)))) <;> refine xE 10 19 rfl q_pick ?_ <;> refine aD_end (by kernel_rfl) (nav ?_) <;> try dsimp only) <;> (
  (first | refine cCd ?_ ?_ | refine cC ?_ ?_) <;> intro hb19
  · first
    | exact Bool.noConfusion hb19
    | (
     refine nav ?_
     (refine aC_region ?_ <;> refine xL 20 q_move ?_ <;> refine xL 21 q_sub ?_ <;> refine xL 5 q_assign ?_ <;> refine aL_end (nav ?_) <;> try dsimp only)
     have hi0 : 0 < i := by omega
     rw [show ((i : Int) - 1) = ((i - 1 : Nat) : Int) by omega]
     refine aN_again (
      ⟨i - 1, by omega, fun j y h1 h2 => by
       by_cases e : j = i - 1
       · have hx3 := hx hi0
         rw [hi1, ← e, h2] at hx3; cases hx3; exact mvCmp_lt.1 hb19
       · exact hp j y (by omega) h2⟩
      ) (by dsimp only; omega) ⟨rfl, rfl, rfl, trivial⟩ ⟨rfl, trivial⟩)
  · first
    | exact Bool.noConfusion hb19
    | (
     refine nav ?_
     (refine aC_draw (fun i => ([] : List Nat).elem i) [3] (by kernel_rfl) ?_ <;> refine xE 0 22 rfl q_move ?_ <;> refine xE 1 23 rfl q_gtr ?_ <;> refine xE 2 24 rfl q_move ?_ <;> (refine bDd 24 (fun hb24 => ?_) (fun hb24 => ?_) <;> (first | refine kD 3 25 rfl ?_ | (have hx2 := hx (by omega); have e1 := flat_drop cMv_len l ((i : Int) - 1).toNat x hx2; have e2 := flat_fit cMv_len hx2; refine xD 3 25 rfl q_move ?_))) <;> (first | refine kD 4 26 rfl ?_ | refine xD 4 26 rfl q_move ?_) <;> (first | refine kD 5 27 rfl ?_ | refine xD 5 27 rfl q_sub ?_) <;> (first | refine kD 6 28 rfl ?_ | refine xD 6 28 rfl (q_idx tSl23_LdI) ?_) <;> (first | refine kD 7 29 rfl ?_ | (refine yD 7 29 rfl (q_lda tAgg72_LdI) fun v29 hv29 => ?_; cases hv29)) <;> (first | refine kD 8 30 rfl ?_ | (refine yD 8 30 rfl (q_ldao 3 tAgg72_LdI) fun v30 hv30 => ?_; cases hv30)) <;> (first | refine kD 9 31 rfl ?_ | refine xD 9 31 rfl ((q_eqS (us := vMv x) (us' := vMv m) uMvS hMvS gMvS (eqMv_runG x m) rfl rfl)) ?_) <;> refine xE 10 32 rfl q_pick ?_ <;> refine aD_end (by kernel_rfl) (nav ?_) <;> try dsimp only) <;> (
      (first | refine cCd ?_ ?_ | refine cC ?_ ?_) <;> intro hb32
      · first
        | exact Bool.noConfusion hb32
        | (
         refine nav ?_
         (refine aC_region ?_ <;> refine xL 33 q_move ?_ <;> refine xL 4 q_assign ?_ <;> refine aL_end (nav ?_) <;> try dsimp only)
         refine ret_shr (Tryz.results91) rfl ?_
         first
          | (exfalso; simp at hb32; done)
          | (have hxm := eqM_iff.1 hb32
             rw [ins_old ha (hxm ▸ List.mem_of_getElem? (hx (by omega)))]))
      · first
        | exact Bool.noConfusion hb32
        | (
         refine nav ?_
         have g1 := flat_dropG cMv_len l
         have f5 : (l.flatMap cMv).length = l.length * 3 := flat_len cMv_len l
         have f1 : (((l.flatMap cMv).drop (0 * 3)).take ((i - 0) * 3)).length = (i - 0) * 3 := by rw [List.length_take, List.length_drop, f5]; omega
         have f3 : (((l.flatMap cMv).drop (i * 3)).take ((l.length - i) * 3)).length = (l.length - i) * 3 := by rw [List.length_take, List.length_drop, f5]; omega
         have f0 : ∀ q ∈ l.flatMap cMv, En.one q = true := List.all_eq_true.1 (cMv_one l)
         have f2 : (((l.flatMap cMv).drop (0 * 3)).take ((i - 0) * 3)).all En.one = true := List.all_eq_true.2 fun q hq => f0 q (List.mem_of_mem_drop (List.mem_of_mem_take hq))
         have f4 : (((l.flatMap cMv).drop (i * 3)).take ((l.length - i) * 3)).all En.one = true := List.all_eq_true.2 fun q hq => f0 q (List.mem_of_mem_drop (List.mem_of_mem_take hq))
         (refine aC_draw (fun i => ([] : List Nat).elem i) [3] (by kernel_rfl) ?_ <;> refine xD 1 35 rfl q_move ?_ <;> refine xD 2 36 rfl q_move ?_ <;> refine xD 3 37 rfl (y_slc_shr (i := 0) (j := i) tSl23_LdI rfl rfl rfl rfl (Nat.zero_le _) hi f5) ?_ <;> (refine yD 5 39 rfl (q_ldao 3 tAgg72_LdI) fun v39 hv39 => ?_; cases hv39) <;> (refine aD_two 0 6 (by kernel_rfl) ?_ ?_; rotate_right; (focus ((refine aW_run rfl fun w9 M9 N9 DQ back => ?_) <;> refine s_lit1a 40 tEl23_LdR fun h40 ho40 => ?_ <;> refine aL_end (back _ (nrm ?_)) <;> (refine aD_one 0 (by kernel_rfl) ?_) <;> (refine aW_run rfl fun w9 M9 N9 DQ back => ?_) <;> refine s_lit0 34 tEl23_LdR fun h34 ho34 => ?_ <;> refine aL_end (back _ (nrm ?_)) <;> (refine aD_one 4 (by kernel_rfl) ?_) <;> (refine aW_run rfl fun w9 M9 N9 DQ back => ?_) <;> refine s_apps 34 38 tEl23_LdR (fun h38 ho38 => ?_) f1 f2 <;> refine aL_end (back _ (nrm ?_)) <;> (refine aD_one 7 (by kernel_rfl) ?_) <;> (refine aW_run rfl fun w9 M9 N9 DQ back => ?_) <;> refine s_app 38 40 41 tEl23_LdR fun h41 ho41 => ?_ <;> refine aL_end (back _ (nrm ?_)) <;> refine xE 8 6 rfl q_assign ?_)); rotate_right; (focus ((refine aW_run rfl fun w9 M9 N9 DQ back => ?_) <;> refine s_lit0 34 tEl23_LdR fun h34 ho34 => ?_ <;> refine aL_end (back _ (nrm ?_)) <;> (refine aD_two 4 6 (by kernel_rfl) ?_ ?_; rotate_right; (focus ((refine aW_run rfl fun w9 M9 N9 DQ back => ?_) <;> refine s_lit1a 40 tEl23_LdR fun h40 ho40 => ?_ <;> refine aL_end (back _ (nrm ?_)) <;> (refine aD_one 4 (by kernel_rfl) ?_) <;> (refine aW_run rfl fun w9 M9 N9 DQ back => ?_) <;> refine s_apps 34 38 tEl23_LdR (fun h38 ho38 => ?_) f1 f2 <;> refine aL_end (back _ (nrm ?_)) <;> (refine aD_one 7 (by kernel_rfl) ?_) <;> (refine aW_run rfl fun w9 M9 N9 DQ back => ?_) <;> refine s_app 38 40 41 tEl23_LdR fun h41 ho41 => ?_ <;> refine aL_end (back _ (nrm ?_)) <;> refine xE 8 6 rfl q_assign ?_)); rotate_right; (focus ((refine aW_run rfl fun w9 M9 N9 DQ back => ?_) <;> refine s_apps 34 38 tEl23_LdR (fun h38 ho38 => ?_) f1 f2 <;> refine aL_end (back _ (nrm ?_)) <;> (refine aD_one 6 (by kernel_rfl) ?_) <;> (refine aW_run rfl fun w9 M9 N9 DQ back => ?_) <;> refine s_lit1a 40 tEl23_LdR fun h40 ho40 => ?_ <;> refine aL_end (back _ (nrm ?_)) <;> (refine aD_one 7 (by kernel_rfl) ?_) <;> (refine aW_run rfl fun w9 M9 N9 DQ back => ?_) <;> refine s_app 38 40 41 tEl23_LdR fun h41 ho41 => ?_ <;> refine aL_end (back _ (nrm ?_)) <;> refine xE 8 6 rfl q_assign ?_)))))) <;> refine aD_end (by kernel_rfl) (nav ?_) <;> try dsimp only) <;> (
          (refine aC_region ?_ <;> refine xL 42 q_move ?_ <;> refine xL 43 q_move ?_ <;> refine xL 44 q_move ?_ <;> refine xL 45 (y_slc_shr (i := i) (j := l.length) tSl23_LdI rfl rfl rfl rfl hi (Nat.le_refl _) f5) ?_ <;> refine s_apps 41 46 tEl23_LdR (fun h46 ho46 => ?_) f3 f4 <;> refine xL 4 q_assign ?_ <;> refine aL_end (nav ?_) <;> try dsimp only)
          have hn : ∀ y, 0 < i → l[i - 1]? = some y → mvLt m y = false ∧ y ≠ m := fun y h0 hy => by
           first
            | (exfalso; omega)
            | (have hx3 := hx h0
               rw [hi1, hy] at hx3; cases hx3
               refine ⟨?_, fun e => ?_⟩
               · cases hc : mvLt m x with
                 | false => rfl
                 | true => exact absurd (mvCmp_lt.2 hc) hb19
               · simp [eqM_iff.2 e] at hb32)
          have hcells : [] ++ ((l.flatMap cMv).drop (0 * 3)).take ((i - 0) * 3) ++ cMv m ++ ((l.flatMap cMv).drop (i * 3)).take ((l.length - i) * 3) = (insM m l).flatMap cMv := by
           rw [ins_new ha hi hp hn, List.flatMap_append, List.flatMap_append, List.flatMap_singleton, Nat.zero_mul, List.drop_zero, Nat.sub_zero, flat_takeG cMv_len, flat_dropG cMv_len, List.take_of_length_le (show ((l.drop i).flatMap cMv).length ≤ (l.length - i) * 3 by rw [flat_len cMv_len, List.length_drop]; exact Nat.le_refl _), List.nil_append]
          have hlen2 : 0 + (i - 0) + 1 + (l.length - i) = (insM m l).length := by
           rw [ins_new ha hi hp hn, List.length_append, List.length_append, List.length_take, List.length_drop, List.length_singleton]; omega
          refine aR_ent (recast (l := 46) (p' := .own 72 3 (insM m l).length ((insM m l).flatMap cMv)) rfl (by rw [← hcells, ← hlen2]; rfl)) fun _ => ?_
          refine aR_ent (En.freeze (l := 46) (t := 4) rfl rfl) fun _ => ?_
          rw [share_mvl _ _ _ rfl]
          exact ret_shr (Tryz.results91) rfl rfl)))))
theorem r07finish_g (a : Aut) (hl : a.moves.length ≤ 1000000) {p0 p1 p2 p3 p4 : PV} {E : Int} (r5 : R5 p0 p1 p2 p3 p4) (hm : AF Tryz.prog 27 [pAut a] (· = .tup [.agg [p0, p1, p2, p3, p4], pInt E])) : AF Tryz.prog 92 [pAut a] (· = if 2000 < a.n ∨ 20000 < a.moves.length then .tup [rawZ, pInt 13] else .tup [.agg [p0, p1, p2, p3, p4], pInt E]) := by
 obtain ⟨o0, o1, o2, o3, o4⟩ := r5.o
 refine AF.of_body 20 Tryz.func92 rfl Tryz.ntmps92 (Nat.le_of_ble_eq_true rfl) ?_
 intro w0 M0 vs hl hv
 obtain ⟨v0, rfl⟩ := len1 hl
 clear hl hv
 refine nav ?_
 (refine aC_region ?_ <;> refine s_boxa 1 5 fun h1 => ?_ <;> refine s_alloc [(.int .i64 0), (.int .i64 0), (.slice none 0 0), (.slice none 0 0), (.slice none 0 0)] 5 2 tZr25_LfD fun h2 => ?_ <;> refine xL 3 q_assign ?_ <;> refine aL_end (nav ?_) <;> try dsimp only)
 (refine aC_region ?_ <;> refine xL 4 (q_fldo 1 tFl25_0_LdI) ?_ <;> (refine yL 5 (q_ldo 1 tNa3_LbB) fun v5 hv5 => ?_; cases hv5) <;> refine xL 6 q_gtr ?_ <;> refine xL 7 q_move ?_ <;> (refine bLd 7 (fun hb7 => ?_) (fun hb7 => ?_) <;> (first | refine kL 8 ?_ | refine xL 8 (q_fldo 1 tFl25_4_LdI) ?_)) <;> (first | refine kL 9 ?_ | (refine yL 9 (q_ldo 1 tNa23_LdI) fun v9 hv9 => ?_; cases hv9)) <;> (first | refine kL 10 ?_ | refine xL 10 (q_len tSl23_LdI) ?_) <;> (first | refine kL 11 ?_ | refine xL 11 q_gtr ?_) <;> refine xL 12 q_pick ?_ <;> refine aL_end (nav ?_) <;> try dsimp only) <;> (
  (first | refine cCd ?_ ?_ | refine cC ?_ ?_) <;> intro hb12
  · first
    | exact Bool.noConfusion hb12
    | (
     refine nav ?_
     (refine aC_region ?_ <;> (refine cP 13 (cA Tryz.call75 (r07limit_e)) fun va13 vb13 hva13 hvb13 => ?_; cases hvb13) <;> refine xL 14 q_extract ?_ <;> refine xL 15 q_extract ?_ <;> refine s_sta 2 tAgg25_LdS ?_ <;> refine xL 3 q_assign ?_ <;> refine aL_end (nav ?_) <;> try dsimp only)
     exact ret_cs (k := 5) 2 (by kernel_rfl) (Tryz.results92) rfl rfl rfl (Nat.le_of_ble_eq_true rfl) (by decide) rfl (by rw [if_pos (by omega)]; rfl))
  · first
    | exact Bool.noConfusion hb12
    | (
     refine nav ?_
     (refine aC_region ?_ <;> (refine yL 16 (q_ldao 1 tAgg25_LdS) fun v16 hv16 => ?_; cases hv16) <;> (refine cP 17 (cA Tryz.call27 hm) (fun va17 vb17 hva17 hvb17 => ?_) (hsh := r5.t E); cases hvb17) <;> refine xL 18 q_extract ?_ <;> refine xL 19 q_extract ?_ <;> refine s_sta 2 tAgg25_LdS ?_ <;> refine xL 3 q_assign ?_ <;> refine aL_end (nav ?_) <;> try dsimp only)
     exact ret_cs (k := 5) 2 (by kernel_rfl) (Tryz.results92) rfl rfl rfl (Nat.le_of_ble_eq_true rfl) (by decide) r5.s (by rw [if_neg (by omega)]; rfl)))
theorem r07finish_e (a : Aut) (hl : a.moves.length ≤ 1000000) : AF Tryz.prog 92 [pAut a] (· = resW (doneX a)) := by
 have h := r07Minimal_e a hl
 unfold doneX
 cases hx : minX a with
 | ok A =>
   rw [hx] at h
   have := r07finish_g a hl (R5.aut A) h
   refine this.mono fun p hp => ?_
   rw [hp]; split <;> rfl
 | error e =>
   rw [hx] at h
   have := r07finish_g a hl R5.raw h
   refine this.mono fun p hp => ?_
   rw [hp]; split <;> rfl
theorem fin_5 (x : Except Int Aut) : ∃ (p0 p1 p2 p3 p4 : PV) (E : Int), R5 p0 p1 p2 p3 p4 ∧ resW x = .tup [.agg [p0, p1, p2, p3, p4], pInt E] := by
 cases x with
 | ok A => exact ⟨_, _, _, _, _, _, R5.aut A, rfl⟩
 | error e => exact ⟨_, _, _, _, _, _, R5.raw, rfl⟩
theorem mvs_len3 (l : List Mv) : (l.flatMap cMv).length = l.length * 3 := flat_len cMv_len l
theorem r07Union_bad (a b : Aut) (e : Int) (he : ¬ e = 0) (hf : AF Tryz.prog 89 [pAut a, pAut b] (· = pInt e)) : AF Tryz.prog 41 [pAut a, pAut b] (· = .tup [rawZ, pInt e]) := by
 refine AF.of_body 62 Tryz.func41 rfl Tryz.ntmps41 (Nat.le_of_ble_eq_true rfl) ?_
 intro w0 M0 vs hl hv
 obtain ⟨v0, v1, rfl⟩ := len2 hl
 clear hl hv
 refine nav ?_
 (refine aC_region ?_ <;> refine s_boxa 2 5 fun h2 => ?_ <;> refine s_boxa 3 5 fun h3 => ?_ <;> refine s_alloc [(.int .i64 0), (.int .i64 0), (.slice none 0 0), (.slice none 0 0), (.slice none 0 0)] 5 4 tZr25_LfD fun h4 => ?_ <;> refine xL 5 q_assign ?_ <;> refine aL_end (nav ?_) <;> try dsimp only)
 (refine aC_region ?_ <;> (refine yL 9 (q_ldao 2 tAgg25_LdS) fun v9 hv9 => ?_; cases hv9) <;> (refine yL 10 (q_ldao 3 tAgg25_LdS) fun v10 hv10 => ?_; cases hv10) <;> (refine cS 11 (cA Tryz.call89 (hf)) fun v11 hv11 => ?_; cases hv11) <;> refine xL 6 q_assign ?_ <;> refine aL_end (nav ?_) <;> try dsimp only)
 (refine aC_region ?_ <;> refine xL 12 q_move ?_ <;> refine xL 13 q_neq ?_ <;> refine aL_end (nav ?_) <;> try dsimp only)
 (first | refine cCd ?_ ?_ | refine cC ?_ ?_) <;> intro hb13
 · refine nav ?_
   (refine aC_region ?_ <;> refine xL 14 (q_build tSt25_LfD) ?_ <;> refine xL 15 q_move ?_ <;> refine s_sta 4 tAgg25_LdS ?_ <;> refine xL 5 q_assign ?_ <;> refine aL_end (nav ?_) <;> try dsimp only)
   exact ret_cs (k := 5) 4 (by kernel_rfl) (Tryz.results41) rfl rfl rfl (Nat.le_of_ble_eq_true rfl) (by decide) rfl rfl
 · exact absurd (by simpa using hb13) he
set_option maxHeartbeats 2000000 in
theorem r07Union_g (a b : Aut) (hla : a.moves.length ≤ 1000000) (hlb : b.moves.length ≤ 1000000) (hf0 : fitX a b = 0) {p0 p1 p2 p3 p4 : PV} {E : Int} (r5 : R5 p0 p1 p2 p3 p4) (hr : AF Tryz.prog 92 [pAut (unionA a b)] (· = .tup [.agg [p0, p1, p2, p3, p4], pInt E])) : AF Tryz.prog 41 [pAut a, pAut b] (· = .tup [.agg [p0, p1, p2, p3, p4], pInt E]) := by
 obtain ⟨o0, o1, o2, o3, o4⟩ := r5.o
 obtain ⟨ha, hb, hs⟩ := fit_vok hf0
 have hf := r07given_e a b hla hlb
 rw [hf0] at hf
 have hn0 := ha.n0
 have hn1 := ha.n1
 have k0 := ha.ml
 have k1 := ha.sl
 have k2 := hb.sl
 have k3 := ha.fl
 have k4 := hb.fl
 have m0 := hb.n0
 have m1 := hb.n1
 have kml := bsM_len ha.toAOk hb.toAOk
 have kmb := hb.ml
 have l1 := addI_len a.n b.start
 have l2 := addI_len a.n b.fin
 have l3 := addM_len a.n b.moves
 refine AF.of_body 62 Tryz.func41 rfl Tryz.ntmps41 (Nat.le_of_ble_eq_true rfl) ?_
 intro w0 M0 vs hl hv
 obtain ⟨v0, v1, rfl⟩ := len2 hl
 clear hl hv
 refine nav ?_
 (refine aC_region ?_ <;> refine s_boxa 2 5 fun h2 => ?_ <;> refine s_boxa 3 5 fun h3 => ?_ <;> refine s_alloc [(.int .i64 0), (.int .i64 0), (.slice none 0 0), (.slice none 0 0), (.slice none 0 0)] 5 4 tZr25_LfD fun h4 => ?_ <;> refine xL 5 q_assign ?_ <;> refine aL_end (nav ?_) <;> try dsimp only)
 (refine aC_region ?_ <;> (refine yL 9 (q_ldao 2 tAgg25_LdS) fun v9 hv9 => ?_; cases hv9) <;> (refine yL 10 (q_ldao 3 tAgg25_LdS) fun v10 hv10 => ?_; cases hv10) <;> (refine cS 11 (cA Tryz.call89 (hf)) fun v11 hv11 => ?_; cases hv11) <;> refine xL 6 q_assign ?_ <;> refine aL_end (nav ?_) <;> try dsimp only)
 (refine aC_region ?_ <;> refine xL 12 q_move ?_ <;> refine xL 13 q_neq ?_ <;> refine aL_end (nav ?_) <;> try dsimp only)
 (first | refine cCd ?_ ?_ | refine cC ?_ ?_) <;> intro hb13
 · first | omega | exact absurd rfl hb13 | exact Bool.noConfusion hb13
 · refine nav ?_
   (refine aC_region ?_ <;> refine xL 16 (q_fldo 2 tFl25_0_LdI) ?_ <;> (refine yL 17 (q_ldo 2 tNa3_LbB) fun v17 hv17 => ?_; cases hv17) <;> refine xL 7 q_assign ?_ <;> refine aL_end (nav ?_) <;> try dsimp only)
   (refine aC_region ?_ <;> refine xL 18 q_move ?_ <;> refine xL 19 (q_fldo 3 tFl25_0_LdI) ?_ <;> (refine yL 20 (q_ldo 3 tNa3_LbB) fun v20 hv20 => ?_; cases hv20) <;> refine xL 21 q_add ?_ <;> refine xL 22 (q_fldo 2 tFl25_1_LdI) ?_ <;> (refine yL 23 (q_ldo 2 tNa3_LbB) fun v23 hv23 => ?_; cases hv23) <;> refine xL 24 (q_build tSt25_LfD) ?_ <;> refine s_alloc [(.int .i64 0), (.int .i64 0), (.slice none 0 0), (.slice none 0 0), (.slice none 0 0)] 5 8 tZr25_LfD fun h8 => ?_ <;> refine s_sta 8 tAgg25_LdS ?_ <;> refine aL_end (nav ?_) <;> try dsimp only)
   refine aC_ent (nilCells (l := 8) [pInt (a.n + b.n), pInt a.syms, .own 3 1 0 [], .own 3 1 0 [], .own 72 3 0 []] rfl rfl (fun i p p' h1 h2 => by
    match i with
    | 0 => cases h1; cases h2; exact .inl rfl
    | 1 => cases h1; cases h2; exact .inl rfl
    | 2 => cases h1; cases h2; exact .inr ⟨rfl, _, _, rfl⟩
    | 3 => cases h1; cases h2; exact .inr ⟨rfl, _, _, rfl⟩
    | 4 => cases h1; cases h2; exact .inr ⟨rfl, _, _, rfl⟩
    | i + 5 => simp at h2)) fun _ => ?_
   refine aC_ent (focusO (l := 8) (l' := 301) (j := 2) rfl rfl rfl rfl) fun i => ?_
   obtain ⟨v301, ho301⟩ := i
   dsimp only [List.set]
   refine aC_ent (focusO (l := 8) (l' := 302) (j := 3) rfl rfl rfl rfl) fun i => ?_
   obtain ⟨v302, ho302⟩ := i
   dsimp only [List.set]
   refine aC_ent (focusO (l := 8) (l' := 303) (j := 4) rfl rfl rfl rfl) fun i => ?_
   obtain ⟨v303, ho303⟩ := i
   dsimp only [List.set]
   (refine aC_draw (fun i => ([11] : List Nat).elem i) [2, 3, 8] (by kernel_rfl) ?_ <;> refine xD 0 25 rfl (q_fldo 8 tFl25_2_LdI) ?_ <;> (refine yD 1 26 rfl (q_ldo 8 tNa22_LdI) fun v26 hv26 => ?_; cases hv26) <;> refine xD 2 27 rfl (q_fldo 2 tFl25_2_LdI) ?_ <;> (refine yD 3 28 rfl (q_ldo 2 tNa22_LdI) fun v28 hv28 => ?_; cases hv28) <;> refine xD 5 30 rfl (q_fldo 3 tFl25_2_LdI) ?_ <;> (refine yD 6 31 rfl (q_ldo 3 tNa22_LdI) fun v31 hv31 => ?_; cases hv31) <;> refine xD 7 32 rfl q_move ?_ <;> (refine aD_one 4 (by kernel_rfl) ?_) <;> (refine aW_run rfl fun w9 M9 N9 DQ back => ?_) <;> refine s_apps 301 29 tEl22_LdI (fun h29 ho29 => ?_) (ints_len1 a.start) (ints_one a.start) <;> refine aL_end (back _ (nrm ?_)) <;> (refine aD_one 8 (by kernel_rfl) ?_) <;> (refine aW_run rfl fun w9 M9 N9 DQ back => ?_) <;> (refine cO 33 (cA Tryz.call94 (r07added_e b.start a.n (by omega) (by omega) (fun x hx => by have := hb.st x hx; omega))) fun v33 ho33 => ?_; refine aL_ent (En.freeze (l := 33) (t := 33) rfl rfl) fun _ => ?_; rw [share_ints _ _ _ rfl]) <;> refine aL_end (back _ (nrm ?_)) <;> (refine aD_one 9 (by kernel_rfl) ?_) <;> (refine aW_run rfl fun w9 M9 N9 DQ back => ?_) <;> (refine s_apps 29 34 tEl22_LdI (fun h34 ho34 => ?_) (ints_len1 (addI a.n b.start)) (ints_one (addI a.n b.start)); have q34 : En.one (PV.val h34) = true := ho34) <;> refine aL_end (back _ (nrm ?_)) <;> refine xE 10 35 rfl (q_fldo 8 tFl25_2_LdI) ?_ <;> (refine aD_one 11 (by kernel_rfl) ?_) <;> (refine aW_last rfl rfl (by kernel_rfl) fun DQ back => ?_) <;> refine s_st 8 tNa22_LdI tSz22_LdK ?_ <;> refine aL_end (back _ (nav ?_)) <;> try dsimp only)
   refine aC_ent (recast (l := 34) (p' := .own 3 1 (a.start ++ addI a.n b.start).length ((a.start ++ addI a.n b.start).map pInt)) rfl (by (try rw [Nat.zero_add]); (try rw [List.nil_append]); exact ints_app _ a.start (addI a.n b.start))) fun _ => ?_
   refine aC_ent (freezeCell (l := 8) (l' := 34) (j := 2) rfl rfl rfl rfl) fun _ => ?_
   rw [share_ints _ _ _ rfl]
   (refine aC_draw (fun i => ([11] : List Nat).elem i) [2, 3, 8] (by kernel_rfl) ?_ <;> refine xD 0 36 rfl (q_fldo 8 tFl25_3_LdI) ?_ <;> (refine yD 1 37 rfl (q_ldo 8 tNa22_LdI) fun v37 hv37 => ?_; cases hv37) <;> refine xD 2 38 rfl (q_fldo 2 tFl25_3_LdI) ?_ <;> (refine yD 3 39 rfl (q_ldo 2 tNa22_LdI) fun v39 hv39 => ?_; cases hv39) <;> refine xD 5 41 rfl (q_fldo 3 tFl25_3_LdI) ?_ <;> (refine yD 6 42 rfl (q_ldo 3 tNa22_LdI) fun v42 hv42 => ?_; cases hv42) <;> refine xD 7 43 rfl q_move ?_ <;> (refine aD_one 4 (by kernel_rfl) ?_) <;> (refine aW_run rfl fun w9 M9 N9 DQ back => ?_) <;> refine s_apps 302 40 tEl22_LdI (fun h40 ho40 => ?_) (ints_len1 a.fin) (ints_one a.fin) <;> refine aL_end (back _ (nrm ?_)) <;> (refine aD_one 8 (by kernel_rfl) ?_) <;> (refine aW_run rfl fun w9 M9 N9 DQ back => ?_) <;> (refine cO 44 (cA Tryz.call94 (r07added_e b.fin a.n (by omega) (by omega) (fun x hx => by have := hb.fi x hx; omega))) fun v44 ho44 => ?_; refine aL_ent (En.freeze (l := 44) (t := 44) rfl rfl) fun _ => ?_; rw [share_ints _ _ _ rfl]) <;> refine aL_end (back _ (nrm ?_)) <;> (refine aD_one 9 (by kernel_rfl) ?_) <;> (refine aW_run rfl fun w9 M9 N9 DQ back => ?_) <;> (refine s_apps 40 45 tEl22_LdI (fun h45 ho45 => ?_) (ints_len1 (addI a.n b.fin)) (ints_one (addI a.n b.fin)); have q45 : En.one (PV.val h45) = true := ho45) <;> refine aL_end (back _ (nrm ?_)) <;> refine xE 10 46 rfl (q_fldo 8 tFl25_3_LdI) ?_ <;> (refine aD_one 11 (by kernel_rfl) ?_) <;> (refine aW_last rfl rfl (by kernel_rfl) fun DQ back => ?_) <;> refine s_st 8 tNa22_LdI tSz22_LdK ?_ <;> refine aL_end (back _ (nav ?_)) <;> try dsimp only)
   refine aC_ent (recast (l := 45) (p' := .own 3 1 (a.fin ++ addI a.n b.fin).length ((a.fin ++ addI a.n b.fin).map pInt)) rfl (by (try rw [Nat.zero_add]); (try rw [List.nil_append]); exact ints_app _ a.fin (addI a.n b.fin))) fun _ => ?_
   refine aC_ent (freezeCell (l := 8) (l' := 45) (j := 3) rfl rfl rfl rfl) fun _ => ?_
   rw [share_ints _ _ _ rfl]
   (refine aC_draw (fun i => ([11] : List Nat).elem i) [2, 3, 8] (by kernel_rfl) ?_ <;> refine xD 0 47 rfl (q_fldo 8 tFl25_4_LdI) ?_ <;> (refine yD 1 48 rfl (q_ldo 8 tNa23_LdI) fun v48 hv48 => ?_; cases hv48) <;> refine xD 2 49 rfl (q_fldo 2 tFl25_4_LdI) ?_ <;> (refine yD 3 50 rfl (q_ldo 2 tNa23_LdI) fun v50 hv50 => ?_; cases hv50) <;> refine xD 5 52 rfl (q_fldo 3 tFl25_4_LdI) ?_ <;> (refine yD 6 53 rfl (q_ldo 3 tNa23_LdI) fun v53 hv53 => ?_; cases hv53) <;> refine xD 7 54 rfl q_move ?_ <;> (refine aD_one 4 (by kernel_rfl) ?_) <;> (refine aW_run rfl fun w9 M9 N9 DQ back => ?_) <;> refine s_apps 303 51 tEl23_LdR (fun h51 ho51 => ?_) (mvs_len3 a.moves) (cMv_one a.moves) <;> refine aL_end (back _ (nrm ?_)) <;> (refine aD_one 8 (by kernel_rfl) ?_) <;> (refine aW_run rfl fun w9 M9 N9 DQ back => ?_) <;> (refine cO 55 (cA Tryz.call95 (r07moved_e b a.n hb.toAOk (by omega))) fun v55 ho55 => ?_; refine aL_ent (En.freeze (l := 55) (t := 55) rfl rfl) fun _ => ?_; rw [share_mvl _ _ _ rfl]) <;> refine aL_end (back _ (nrm ?_)) <;> (refine aD_one 9 (by kernel_rfl) ?_) <;> (refine aW_run rfl fun w9 M9 N9 DQ back => ?_) <;> (refine s_apps 51 56 tEl23_LdR (fun h56 ho56 => ?_) (mvs_len3 (addM a.n b.moves)) (cMv_one (addM a.n b.moves)); have q56 : En.one (PV.val h56) = true := ho56) <;> refine aL_end (back _ (nrm ?_)) <;> refine xE 10 57 rfl (q_fldo 8 tFl25_4_LdI) ?_ <;> (refine aD_one 11 (by kernel_rfl) ?_) <;> (refine aW_last rfl rfl (by kernel_rfl) fun DQ back => ?_) <;> refine s_st 8 tNa23_LdI tSz23_LdR ?_ <;> refine aL_end (back _ (nav ?_)) <;> try dsimp only)
   refine aC_ent (recast (l := 56) (p' := .own 72 3 (bsM a b).length ((bsM a b).flatMap cMv)) rfl (by (try rw [Nat.zero_add]); (try rw [List.nil_append]); rw [← List.flatMap_append, ← List.length_append]; rfl)) fun _ => ?_
   refine aC_ent (freezeCell (l := 8) (l' := 56) (j := 4) rfl rfl rfl rfl) fun _ => ?_
   rw [share_mvl _ _ _ rfl]
   (refine aC_region ?_ <;> (refine yL 58 (q_ldao 8 tAgg25_LdS) fun v58 hv58 => ?_; cases hv58) <;> (refine cP 59 (cA Tryz.call92 hr) (fun va59 vb59 hva59 hvb59 => ?_) (hsh := r5.t E); cases hvb59) <;> refine xL 60 q_extract ?_ <;> refine xL 61 q_extract ?_ <;> refine s_sta 4 tAgg25_LdS ?_ <;> refine xL 5 q_assign ?_ <;> refine aL_end (nav ?_) <;> try dsimp only)
   exact ret_cs (k := 5) 4 (by kernel_rfl) (Tryz.results41) rfl rfl rfl (Nat.le_of_ble_eq_true rfl) (by decide) r5.s rfl
theorem r07Union_e (a b : Aut) (hla : a.moves.length ≤ 1000000) (hlb : b.moves.length ≤ 1000000) : AF Tryz.prog 41 [pAut a, pAut b] (· = resW (unionX a b)) := by
 unfold unionX
 by_cases h0 : fitX a b = 0
 · rw [if_neg (fun h => h h0)]
   obtain ⟨ha, hb, hs⟩ := fit_vok h0
   have hr := r07finish_e (unionA a b) (by have := bsM_len ha.toAOk hb.toAOk; show (bsM a b).length ≤ 1000000; omega)
   rw [unionX_fin ha hb hs]
   obtain ⟨p0, p1, p2, p3, p4, E, h5, h2⟩ := fin_5 (doneX (unionA a b))
   rw [h2] at hr ⊢
   exact r07Union_g a b hla hlb h0 h5 hr
 · rw [if_pos h0]
   exact r07Union_bad a b _ h0 (r07given_e a b hla hlb)
theorem r07Star_bad (a : Aut) (hla : a.moves.length ≤ 1000000) (hv : autOk a = false) : AF Tryz.prog 45 [pAut a] (· = .tup [rawZ, pInt 1]) := by
 refine AF.of_body 70 Tryz.func45 rfl Tryz.ntmps45 (Nat.le_of_ble_eq_true rfl) ?_
 intro w0 M0 vs hl hv
 obtain ⟨v0, rfl⟩ := len1 hl
 clear hl hv
 refine nav ?_
 (refine aC_region ?_ <;> refine s_boxa 1 5 fun h1 => ?_ <;> refine s_alloc [(.int .i64 0), (.int .i64 0), (.slice none 0 0), (.slice none 0 0), (.slice none 0 0)] 5 2 tZr25_LfD fun h2 => ?_ <;> refine xL 3 q_assign ?_ <;> refine aL_end (nav ?_) <;> try dsimp only)
 (refine aC_region ?_ <;> (refine yL 8 (q_ldao 1 tAgg25_LdS) fun v8 hv8 => ?_; cases hv8) <;> (refine cS 9 (cA Tryz.call25 (r07Valid_e a hla)) fun v9 hv9 => ?_; cases hv9) <;> refine xL 10 q_not ?_ <;> refine aL_end (nav ?_) <;> try dsimp only)
 (first | refine cCd ?_ ?_ | refine cC ?_ ?_) <;> intro hb10
 · refine nav ?_
   (refine aC_region ?_ <;> refine xL 11 (q_build tSt25_LfD) ?_ <;> refine s_sta 2 tAgg25_LdS ?_ <;> refine xL 3 q_assign ?_ <;> refine aL_end (nav ?_) <;> try dsimp only)
   exact ret_cs (k := 5) 2 (by kernel_rfl) (Tryz.results45) rfl rfl rfl (Nat.le_of_ble_eq_true rfl) (by decide) rfl rfl
 · rw [hv] at hb10; simp at hb10
set_option maxHeartbeats 2000000 in
theorem r07Star_g (a : Aut) (hla : a.moves.length ≤ 1000000) (hv : autOk a = true) {p0 p1 p2 p3 p4 : PV} {E : Int} (r5 : R5 p0 p1 p2 p3 p4) (hr : AF Tryz.prog 92 [pAut (mkA (starA a))] (· = .tup [.agg [p0, p1, p2, p3, p4], pInt E])) : AF Tryz.prog 45 [pAut a] (· = .tup [.agg [p0, p1, p2, p3, p4], pInt E]) := by
 obtain ⟨o0, o1, o2, o3, o4⟩ := r5.o
 have h := vok_of hv
 have hn0 := h.n0
 have hn1 := h.n1
 have hml := h.ml
 have hsl := h.sl
 have hfl := h.fl
 refine AF.of_body 70 Tryz.func45 rfl Tryz.ntmps45 (Nat.le_of_ble_eq_true rfl) ?_
 intro w0 M0 vs hl hv
 obtain ⟨v0, rfl⟩ := len1 hl
 clear hl hv
 refine nav ?_
 (refine aC_region ?_ <;> refine s_boxa 1 5 fun h1 => ?_ <;> refine s_alloc [(.int .i64 0), (.int .i64 0), (.slice none 0 0), (.slice none 0 0), (.slice none 0 0)] 5 2 tZr25_LfD fun h2 => ?_ <;> refine xL 3 q_assign ?_ <;> refine aL_end (nav ?_) <;> try dsimp only)
 (refine aC_region ?_ <;> (refine yL 8 (q_ldao 1 tAgg25_LdS) fun v8 hv8 => ?_; cases hv8) <;> (refine cS 9 (cA Tryz.call25 (r07Valid_e a hla)) fun v9 hv9 => ?_; cases hv9) <;> refine xL 10 q_not ?_ <;> refine aL_end (nav ?_) <;> try dsimp only)
 (first | refine cCd ?_ ?_ | refine cC ?_ ?_) <;> intro hb10
 · rw [hv] at hb10; simp at hb10
 · refine nav ?_
   (refine aC_region ?_ <;> refine xL 12 (q_fldo 1 tFl25_0_LdI) ?_ <;> (refine yL 13 (q_ldo 1 tNa3_LbB) fun v13 hv13 => ?_; cases hv13) <;> refine xL 4 q_assign ?_ <;> refine aL_end (nav ?_) <;> try dsimp only)
   (refine aC_region ?_ <;> refine xL 14 q_move ?_ <;> refine xL 15 q_add ?_ <;> refine xL 16 (q_fldo 1 tFl25_1_LdI) ?_ <;> (refine yL 17 (q_ldo 1 tNa3_LbB) fun v17 hv17 => ?_; cases hv17) <;> refine xL 18 q_move ?_ <;> (refine s_lit1 (kk := 1) 19 tEl22_LdI fun h19 ho19 => ?_; refine aL_ent (En.freeze (l := 19) (t := 19) rfl rfl) fun _ => ?_; rw [show share (PV.own 3 1 1 [PV.val (.int .i64 a.n)]) = pInts [a.n] from rfl]) <;> refine xL 20 q_move ?_ <;> (refine s_lit1 (kk := 1) 21 tEl22_LdI fun h21 ho21 => ?_; refine aL_ent (En.freeze (l := 21) (t := 21) rfl rfl) fun _ => ?_; rw [show share (PV.own 3 1 1 [PV.val (.int .i64 a.n)]) = pInts [a.n] from rfl]) <;> refine xL 22 (q_build tSt25_LfD) ?_ <;> refine s_alloc [(.int .i64 0), (.int .i64 0), (.slice none 0 0), (.slice none 0 0), (.slice none 0 0)] 5 5 tZr25_LfD fun h5 => ?_ <;> refine s_sta 5 tAgg25_LdS ?_ <;> refine aL_end (nav ?_) <;> try dsimp only)
   refine aC_ent (nilCells (l := 5) [pInt (a.n + 1), pInt a.syms, pInts [a.n], pInts [a.n], .own 72 3 0 []] rfl rfl (fun i p p' h1 h2 => by
    match i with
    | 0 => cases h1; cases h2; exact .inl rfl
    | 1 => cases h1; cases h2; exact .inl rfl
    | 2 => cases h1; cases h2; exact .inl rfl
    | 3 => cases h1; cases h2; exact .inl rfl
    | 4 => cases h1; cases h2; exact .inr ⟨rfl, _, _, rfl⟩
    | i + 5 => simp at h2)) fun _ => ?_
   refine aC_ent (focusO (l := 5) (l' := 301) (j := 4) rfl rfl rfl rfl) fun i => ?_
   obtain ⟨v301, ho301⟩ := i
   dsimp only [List.set]
   (refine aC_region ?_ <;> refine xL 23 (q_fldo 5 tFl25_4_LdI) ?_ <;> (refine yL 24 (q_ldo 5 tNa23_LdI) fun v24 hv24 => ?_; cases hv24) <;> refine xL 25 (q_fldo 1 tFl25_4_LdI) ?_ <;> (refine yL 26 (q_ldo 1 tNa23_LdI) fun v26 hv26 => ?_; cases hv26) <;> (refine s_apps 301 27 tEl23_LdR (fun h27 ho27 => ?_) (mvs_len3 a.moves) (cMv_one a.moves); have q27 : En.one (PV.val h27) = true := ho27) <;> refine xL 28 (q_fldo 5 tFl25_4_LdI) ?_ <;> refine s_st 5 tNa23_LdI tSz23_LdR ?_ <;> refine aL_end (nav ?_) <;> try dsimp only)
   refine aC_ent (relabel (l := 27) 301 rfl rfl) fun _ => ?_
   refine aC_ent (recast (l := 301) (p' := .own 72 3 (a.moves ++ stMv a.n (a.start.take 0)).length ((a.moves ++ stMv a.n (a.start.take 0)).flatMap cMv)) rfl (by (try rw [Nat.zero_add]); (try rw [List.nil_append]); rw [show stMv a.n (a.start.take 0) = [] from rfl, List.append_nil])) fun _ => ?_
   (refine aC_region ?_ <;> refine xL 6 q_assign ?_ <;> refine aL_end (nav ?_) <;> try dsimp only)
   refine aC_loop (ι := { q : Nat × Value // q.1 ≤ a.start.length ∧ q.2.oneCell' = true }) (fun k => ⟨[(1, _, _), (2, _, _), (4, _, _), (5, _, _), (6, .int .i64 k.1.1, pInt k.1.1)], [(1, _, _), (2, _, _), (5, h5, .own 25 5 1 [pInt (a.n + 1), pInt a.syms, pInts [a.n], pInts [a.n], .val k.1.2]), (301, k.1.2, .own 72 3 (a.moves ++ stMv a.n (a.start.take k.1.1)).length ((a.moves ++ stMv a.n (a.start.take k.1.1)).flatMap cMv))]⟩) (fun k => a.start.length - k.1.1) ⟨(0, h27), Nat.zero_le _, ho27⟩ (fun a w H => H.weaken ⟨rfl, rfl, rfl, rfl, rfl, trivial⟩ ⟨rfl, rfl, rfl, rfl, trivial⟩) ?_
   rintro ⟨⟨k, hM⟩, hk, hMo⟩
   dsimp only
   dsimp only at hk hMo
   have hl1 : (a.moves ++ stMv a.n (a.start.take k)).length ≤ 30000 := by unfold stMv; rw [List.length_append, List.length_map, List.length_take]; omega
   have q5 : En.one (PV.val hM) = true := hMo
   refine nav ?_
   (refine aC_region ?_ <;> refine xL 29 q_move ?_ <;> refine xL 30 (q_fldo 1 tFl25_2_LdI) ?_ <;> (refine yL 31 (q_ldo 1 tNa22_LdI) fun v31 hv31 => ?_; cases hv31) <;> refine xL 32 (q_len tSl22_LbB) ?_ <;> refine xL 33 q_lss ?_ <;> refine aL_end (nav ?_) <;> try dsimp only)
   (first | refine cCd ?_ ?_ | refine cC ?_ ?_) <;> intro hb33
   · first
     | exact Bool.noConfusion hb33
     | (
      obtain ⟨x, hx⟩ := get_some (show k < a.start.length by omega)
      have e1 := map_at (f := pInt) hx
      refine nav ?_
      (refine aC_draw (fun i => ([12] : List Nat).elem i) [1, 5] (by kernel_rfl) ?_ <;> refine xD 0 36 rfl (q_fldo 5 tFl25_4_LdI) ?_ <;> (refine yD 1 37 rfl (q_ldo 5 tNa23_LdI) fun v37 hv37 => ?_; cases hv37) <;> refine xD 2 38 rfl q_move ?_ <;> refine xD 3 39 rfl (q_fldo 1 tFl25_2_LdI) ?_ <;> (refine yD 4 40 rfl (q_ldo 1 tNa22_LdI) fun v40 hv40 => ?_; cases hv40) <;> refine xE 5 41 rfl q_move ?_ <;> refine xE 6 42 rfl (q_idxN tSl22_LbB) ?_ <;> (refine yE 7 43 rfl (q_ld tNa3_LbB) fun v43 hv43 => ?_; cases hv43) <;> refine xE 8 44 rfl (q_build tSt72_LfD) ?_ <;> (refine aD_one 9 (by kernel_rfl) ?_) <;> (refine aW_run rfl fun w9 M9 N9 DQ back => ?_) <;> refine s_lit1a 45 tEl23_LdR fun h45 ho45 => ?_ <;> refine aL_end (back _ (nrm ?_)) <;> (refine aD_one 10 (by kernel_rfl) ?_) <;> (refine aW_run rfl fun w9 M9 N9 DQ back => ?_) <;> (refine s_app 301 45 46 tEl23_LdR fun h46 ho46 => ?_; refine aL_ent (relabel (l := 46) 301 rfl rfl) fun _ => ?_; refine aL_ent (recast (l := 301) rfl ((snoc_mv _ (a.moves ++ stMv a.n (a.start.take k)) ⟨a.n, x, -1⟩).trans (by rw [List.append_assoc, ← stMv_snoc a.n hx]))) fun _ => ?_; have q46 : En.one (PV.val h46) = true := ho46) <;> refine aL_end (back _ (nrm ?_)) <;> refine xE 11 47 rfl (q_fldo 5 tFl25_4_LdI) ?_ <;> (refine aD_one 12 (by kernel_rfl) ?_) <;> (refine aW_last rfl rfl (by kernel_rfl) fun DQ back => ?_) <;> refine s_st 5 tNa23_LdI tSz23_LdR ?_ <;> refine aL_end (back _ (nav ?_)) <;> try dsimp only)
      (refine aC_region ?_ <;> refine xL 34 q_move ?_ <;> refine xL 35 q_add ?_ <;> refine xL 6 q_assign ?_ <;> refine aL_end (nav ?_) <;> try dsimp only)
      refine aN_again (
       ⟨(k + 1, h46), lt_of_get hx, ho46⟩
       ) (by dsimp only; omega) ⟨rfl, rfl, rfl, rfl, rfl, trivial⟩ ⟨rfl, rfl, rfl, rfl, trivial⟩)
   · first
     | exact Bool.noConfusion hb33
     | (
      rw [List.take_of_length_le (show a.start.length ≤ k by omega)]
      refine nav ?_
      refine aC_ent (freezeCell (l := 5) (l' := 301) (j := 4) rfl rfl rfl rfl) fun _ => ?_
      rw [share_mvl _ _ _ rfl]
      refine aC_ent (recast (l := 5) (p' := .own 25 5 1 [pInt (a.n + 1), pInt a.syms, pInts [a.n], pInts [a.n], pMvs (mkM (a.moves ++ stMv a.n a.start ++ fiMv a.n (a.fin.take 0)))]) rfl (by rw [show fiMv a.n (a.fin.take 0) = [] from rfl, List.append_nil, show mkM (a.moves ++ stMv a.n a.start) = a.moves ++ stMv a.n a.start from mk_asc (star_asc h)]; rfl)) fun _ => ?_
      (refine aC_region ?_ <;> refine xL 7 q_assign ?_ <;> refine aL_end (nav ?_) <;> try dsimp only)
      refine aC_loop (ι := { k : Nat // k ≤ a.fin.length }) (fun k => ⟨[(1, _, _), (2, _, _), (4, _, _), (5, _, _), (7, .int .i64 k.1, pInt k.1)], [(1, _, _), (2, _, _), (5, h5, .own 25 5 1 [pInt (a.n + 1), pInt a.syms, pInts [a.n], pInts [a.n], pMvs (mkM (a.moves ++ stMv a.n a.start ++ fiMv a.n (a.fin.take k.1)))])]⟩) (fun k => a.fin.length - k.1) ⟨0, Nat.zero_le _⟩ (fun a w H => H.weaken ⟨rfl, rfl, rfl, rfl, rfl, trivial⟩ ⟨rfl, rfl, rfl, trivial⟩) ?_
      rintro ⟨j, hj⟩
      dsimp only
      refine nav ?_
      (refine aC_region ?_ <;> refine xL 48 q_move ?_ <;> refine xL 49 (q_fldo 1 tFl25_3_LdI) ?_ <;> (refine yL 50 (q_ldo 1 tNa22_LdI) fun v50 hv50 => ?_; cases hv50) <;> refine xL 51 (q_len tSl22_LbB) ?_ <;> refine xL 52 q_lss ?_ <;> refine aL_end (nav ?_) <;> try dsimp only)
      (first | refine cCd ?_ ?_ | refine cC ?_ ?_) <;> intro hb52
      · first
        | exact Bool.noConfusion hb52
        | (
         obtain ⟨y, hy⟩ := get_some (show j < a.fin.length by omega)
         have e1 := map_at (f := pInt) hy
         have hins : AF Tryz.prog 91 [pMvs (mkM (a.moves ++ stMv a.n a.start ++ fiMv a.n (a.fin.take j))), .agg (cMv ⟨y, a.n, -1⟩)] (· = pMvs (mkM (a.moves ++ stMv a.n a.start ++ fiMv a.n (a.fin.take (j + 1))))) := by
          have h1 := r07insert_e (mkM (a.moves ++ stMv a.n a.start ++ fiMv a.n (a.fin.take j))) ⟨y, a.n, -1⟩ (Nat.le_trans (mkM_len _) (by unfold stMv fiMv; rw [List.length_append, List.length_append, List.length_map, List.length_map, List.length_take]; omega)) (mkM_asc _)
          rw [ins_mk, List.append_assoc (a.moves ++ stMv a.n a.start), ← fiMv_snoc a.n hy] at h1
          exact h1
         refine nav ?_
         (refine aC_draw (fun i => ([11] : List Nat).elem i) [1, 5] (by kernel_rfl) ?_ <;> refine xD 0 55 rfl (q_fldo 5 tFl25_4_LdI) ?_ <;> (refine yD 1 56 rfl (q_ldo 5 tNa23_LdI) fun v56 hv56 => ?_; cases hv56) <;> refine xD 2 57 rfl (q_fldo 1 tFl25_3_LdI) ?_ <;> (refine yD 3 58 rfl (q_ldo 1 tNa22_LdI) fun v58 hv58 => ?_; cases hv58) <;> refine xD 4 59 rfl q_move ?_ <;> refine xD 5 60 rfl (q_idxN tSl22_LbB) ?_ <;> (refine yD 6 61 rfl (q_ld tNa3_LbB) fun v61 hv61 => ?_; cases hv61) <;> refine xE 7 62 rfl q_move ?_ <;> refine xE 8 63 rfl (q_build tSt72_LfD) ?_ <;> (refine aD_one 9 (by kernel_rfl) ?_) <;> (refine aW_run rfl fun w9 M9 N9 DQ back => ?_) <;> (refine cS 64 (cA Tryz.call91 (hins)) fun v64 hv64 => ?_; cases hv64) <;> refine aL_end (back _ (nrm ?_)) <;> refine xE 10 65 rfl (q_fldo 5 tFl25_4_LdI) ?_ <;> (refine aD_one 11 (by kernel_rfl) ?_) <;> (refine aW_last rfl rfl (by kernel_rfl) fun DQ back => ?_) <;> refine s_st 5 tNa23_LdI tSz23_LdR ?_ <;> refine aL_end (back _ (nav ?_)) <;> try dsimp only)
         (refine aC_region ?_ <;> refine xL 53 q_move ?_ <;> refine xL 54 q_add ?_ <;> refine xL 7 q_assign ?_ <;> refine aL_end (nav ?_) <;> try dsimp only)
         refine aN_again (
          ⟨j + 1, lt_of_get hy⟩
          ) (by dsimp only; omega) ⟨rfl, rfl, rfl, rfl, rfl, trivial⟩ ⟨rfl, rfl, rfl, trivial⟩)
      · first
        | exact Bool.noConfusion hb52
        | (
         rw [List.take_of_length_le (show a.fin.length ≤ j by omega)]
         refine nav ?_
         (refine aC_region ?_ <;> (refine yL 66 (q_ldao 5 tAgg25_LdS) fun v66 hv66 => ?_; cases hv66) <;> (refine cP 67 (cA Tryz.call92 hr) (fun va67 vb67 hva67 hvb67 => ?_) (hsh := r5.t E); cases hvb67) <;> refine xL 68 q_extract ?_ <;> refine xL 69 q_extract ?_ <;> refine s_sta 2 tAgg25_LdS ?_ <;> refine xL 3 q_assign ?_ <;> refine aL_end (nav ?_) <;> try dsimp only)
         exact ret_cs (k := 5) 2 (by kernel_rfl) (Tryz.results45) rfl rfl rfl (Nat.le_of_ble_eq_true rfl) (by decide) r5.s rfl))
theorem r07Star_e (a : Aut) (hla : a.moves.length ≤ 1000000) : AF Tryz.prog 45 [pAut a] (· = resW (starX a)) := by
 unfold starX
 cases hv : autOk a with
 | false => rw [if_neg (by simp)]; exact r07Star_bad a hla hv
 | true =>
   rw [if_pos rfl]
   have h := vok_of hv
   have hr := r07finish_e (mkA (starA a)) (Nat.le_trans (mkM_len _) (star_len h.toAOk))
   rw [starX_fin h]
   obtain ⟨p0, p1, p2, p3, p4, E, h5, h2⟩ := fin_5 (doneX (mkA (starA a)))
   rw [h2] at hr ⊢
   exact r07Star_g a hla hv h5 hr
theorem r07Reverse_bad (a : Aut) (hla : a.moves.length ≤ 1000000) (hv : autOk a = false) : AF Tryz.prog 47 [pAut a] (· = .tup [rawZ, pInt 1]) := by
 refine AF.of_body 47 Tryz.func47 rfl Tryz.ntmps47 (Nat.le_of_ble_eq_true rfl) ?_
 intro w0 M0 vs hl hv
 obtain ⟨v0, rfl⟩ := len1 hl
 clear hl hv
 refine nav ?_
 (refine aC_region ?_ <;> refine s_boxa 1 5 fun h1 => ?_ <;> refine s_alloc [(.int .i64 0), (.int .i64 0), (.slice none 0 0), (.slice none 0 0), (.slice none 0 0)] 5 2 tZr25_LfD fun h2 => ?_ <;> refine xL 3 q_assign ?_ <;> refine aL_end (nav ?_) <;> try dsimp only)
 (refine aC_region ?_ <;> (refine yL 7 (q_ldao 1 tAgg25_LdS) fun v7 hv7 => ?_; cases hv7) <;> (refine cS 8 (cA Tryz.call25 (r07Valid_e a hla)) fun v8 hv8 => ?_; cases hv8) <;> refine xL 9 q_not ?_ <;> refine aL_end (nav ?_) <;> try dsimp only)
 (first | refine cCd ?_ ?_ | refine cC ?_ ?_) <;> intro hb9
 · refine nav ?_
   (refine aC_region ?_ <;> refine xL 10 (q_build tSt25_LfD) ?_ <;> refine s_sta 2 tAgg25_LdS ?_ <;> refine xL 3 q_assign ?_ <;> refine aL_end (nav ?_) <;> try dsimp only)
   exact ret_cs (k := 5) 2 (by kernel_rfl) (Tryz.results47) rfl rfl rfl (Nat.le_of_ble_eq_true rfl) (by decide) rfl rfl
 · rw [hv] at hb9; simp at hb9
set_option maxHeartbeats 2000000 in
theorem r07Reverse_g (a : Aut) (hla : a.moves.length ≤ 1000000) (hv : autOk a = true) {p0 p1 p2 p3 p4 : PV} {E : Int} (r5 : R5 p0 p1 p2 p3 p4) (hr : AF Tryz.prog 92 [pAut (mkA (revA a))] (· = .tup [.agg [p0, p1, p2, p3, p4], pInt E])) : AF Tryz.prog 47 [pAut a] (· = .tup [.agg [p0, p1, p2, p3, p4], pInt E]) := by
 obtain ⟨o0, o1, o2, o3, o4⟩ := r5.o
 have h := vok_of hv
 have hn0 := h.n0
 have hml := h.ml
 refine AF.of_body 47 Tryz.func47 rfl Tryz.ntmps47 (Nat.le_of_ble_eq_true rfl) ?_
 intro w0 M0 vs hl hv
 obtain ⟨v0, rfl⟩ := len1 hl
 clear hl hv
 refine nav ?_
 (refine aC_region ?_ <;> refine s_boxa 1 5 fun h1 => ?_ <;> refine s_alloc [(.int .i64 0), (.int .i64 0), (.slice none 0 0), (.slice none 0 0), (.slice none 0 0)] 5 2 tZr25_LfD fun h2 => ?_ <;> refine xL 3 q_assign ?_ <;> refine aL_end (nav ?_) <;> try dsimp only)
 (refine aC_region ?_ <;> (refine yL 7 (q_ldao 1 tAgg25_LdS) fun v7 hv7 => ?_; cases hv7) <;> (refine cS 8 (cA Tryz.call25 (r07Valid_e a hla)) fun v8 hv8 => ?_; cases hv8) <;> refine xL 9 q_not ?_ <;> refine aL_end (nav ?_) <;> try dsimp only)
 (first | refine cCd ?_ ?_ | refine cC ?_ ?_) <;> intro hb9
 · rw [hv] at hb9; simp at hb9
 · refine nav ?_
   (refine aC_region ?_ <;> refine xL 11 (q_fldo 1 tFl25_0_LdI) ?_ <;> (refine yL 12 (q_ldo 1 tNa3_LbB) fun v12 hv12 => ?_; cases hv12) <;> refine xL 13 (q_fldo 1 tFl25_1_LdI) ?_ <;> (refine yL 14 (q_ldo 1 tNa3_LbB) fun v14 hv14 => ?_; cases hv14) <;> refine xL 15 (q_fldo 1 tFl25_3_LdI) ?_ <;> (refine yL 16 (q_ldo 1 tNa22_LdI) fun v16 hv16 => ?_; cases hv16) <;> refine xL 17 (q_fldo 1 tFl25_2_LdI) ?_ <;> (refine yL 18 (q_ldo 1 tNa22_LdI) fun v18 hv18 => ?_; cases hv18) <;> refine xL 19 (q_build tSt25_LfD) ?_ <;> refine s_alloc [(.int .i64 0), (.int .i64 0), (.slice none 0 0), (.slice none 0 0), (.slice none 0 0)] 5 4 tZr25_LfD fun h4 => ?_ <;> refine s_sta 4 tAgg25_LdS ?_ <;> refine aL_end (nav ?_) <;> try dsimp only)
   refine aC_ent (nilCells (l := 4) [pInt a.n, pInt a.syms, pInts a.fin, pInts a.start, .own 72 3 0 []] rfl rfl (fun i p p' h1 h2 => by
    match i with
    | 0 => cases h1; cases h2; exact .inl rfl
    | 1 => cases h1; cases h2; exact .inl rfl
    | 2 => cases h1; cases h2; exact .inl rfl
    | 3 => cases h1; cases h2; exact .inl rfl
    | 4 => cases h1; cases h2; exact .inr ⟨rfl, _, _, rfl⟩
    | i + 5 => simp at h2)) fun _ => ?_
   refine aC_ent (focusO (l := 4) (l' := 301) (j := 4) rfl rfl rfl rfl) fun i => ?_
   obtain ⟨v301, ho301⟩ := i
   dsimp only [List.set]
   refine aC_ent (freezeCell (l := 4) (l' := 301) (j := 4) rfl rfl rfl rfl) fun _ => ?_
   refine aC_ent (recast (l := 4) (p' := .own 25 5 1 [pInt a.n, pInt a.syms, pInts a.fin, pInts a.start, pMvs (mkM (turnM (a.moves.take 0)))]) rfl rfl) fun _ => ?_
   (refine aC_region ?_ <;> refine xL 5 q_assign ?_ <;> refine aL_end (nav ?_) <;> try dsimp only)
   refine aC_loop (ι := { k : Nat // k ≤ a.moves.length }) (fun k => ⟨[(1, _, _), (2, _, _), (4, _, _), (5, .int .i64 k.1, pInt k.1)], [(1, _, _), (2, _, _), (4, h4, .own 25 5 1 [pInt a.n, pInt a.syms, pInts a.fin, pInts a.start, pMvs (mkM (turnM (a.moves.take k.1)))])]⟩) (fun k => a.moves.length - k.1) ⟨0, Nat.zero_le _⟩ (fun a w H => H.weaken ⟨rfl, rfl, rfl, rfl, trivial⟩ ⟨rfl, rfl, rfl, trivial⟩) ?_
   rintro ⟨j, hj⟩
   dsimp only
   refine nav ?_
   (refine aC_region ?_ <;> refine xL 20 q_move ?_ <;> refine xL 21 (q_fldo 1 tFl25_4_LdI) ?_ <;> (refine yL 22 (q_ldo 1 tNa23_LdI) fun v22 hv22 => ?_; cases hv22) <;> refine xL 23 (q_len tSl23_LdI) ?_ <;> refine xL 24 q_lss ?_ <;> refine aL_end (nav ?_) <;> try dsimp only)
   (first | refine cCd ?_ ?_ | refine cC ?_ ?_) <;> intro hb24
   · first
     | exact Bool.noConfusion hb24
     | (
      obtain ⟨y, hy⟩ := get_some (show j < a.moves.length by omega)
      have e1 := flat_drop cMv_len a.moves j y hy
      have e2 := flat_fit cMv_len hy
      have hins : AF Tryz.prog 91 [pMvs (mkM (turnM (a.moves.take j))), .agg (cMv ⟨y.dst, y.src, y.sym⟩)] (· = pMvs (mkM (turnM (a.moves.take (j + 1))))) := by
       have h1 := r07insert_e (mkM (turnM (a.moves.take j))) ⟨y.dst, y.src, y.sym⟩ (Nat.le_trans (mkM_len _) (by rw [turnM_len, List.length_take]; omega)) (mkM_asc _)
       rw [ins_mk, ← turnM_snoc hy] at h1
       exact h1
      refine nav ?_
      (refine aC_region ?_ <;> refine xL 27 (q_fldo 1 tFl25_4_LdI) ?_ <;> (refine yL 28 (q_ldo 1 tNa23_LdI) fun v28 hv28 => ?_; cases hv28) <;> refine xL 29 q_move ?_ <;> refine xL 30 (q_idxN tSl23_LdI) ?_ <;> (refine yL 31 (q_lda tAgg72_LdI) fun v31 hv31 => ?_; cases hv31) <;> refine s_alloc [(.int .i64 0), (.int .i64 0), (.int .i64 0)] 3 6 tZr72_LdI fun h6 => ?_ <;> refine s_sta 6 tAgg72_LdI ?_ <;> refine aL_end (nav ?_) <;> try dsimp only)
      (refine aC_region ?_ <;> refine xL 32 (q_fldo 4 tFl25_4_LdI) ?_ <;> (refine yL 33 (q_ldo 4 tNa23_LdI) fun v33 hv33 => ?_; cases hv33) <;> refine xL 34 (q_fldo 6 tFl72_1_LdI) ?_ <;> (refine yL 35 (q_ldo 6 tNa3_LbB) fun v35 hv35 => ?_; cases hv35) <;> refine xL 36 (q_fldo 6 tFl72_0_LdI) ?_ <;> (refine yL 37 (q_ldo 6 tNa3_LbB) fun v37 hv37 => ?_; cases hv37) <;> refine xL 38 (q_fldo 6 tFl72_2_LdI) ?_ <;> (refine yL 39 (q_ldo 6 tNa3_LbB) fun v39 hv39 => ?_; cases hv39) <;> refine xL 40 (q_build tSt72_LfD) ?_ <;> (refine cS 41 (cA Tryz.call91 (hins)) fun v41 hv41 => ?_; cases hv41) <;> refine xL 42 (q_fldo 4 tFl25_4_LdI) ?_ <;> refine s_st 4 tNa23_LdI tSz23_LdR ?_ <;> refine aL_end (nav ?_) <;> try dsimp only)
      (refine aC_region ?_ <;> refine xL 25 q_move ?_ <;> refine xL 26 q_add ?_ <;> refine xL 5 q_assign ?_ <;> refine aL_end (nav ?_) <;> try dsimp only)
      refine aN_again (
       ⟨j + 1, lt_of_get hy⟩
       ) (by dsimp only; omega) ⟨rfl, rfl, rfl, rfl, trivial⟩ ⟨rfl, rfl, rfl, trivial⟩)
   · first
     | exact Bool.noConfusion hb24
     | (
      rw [List.take_of_length_le (show a.moves.length ≤ j by omega)]
      refine nav ?_
      (refine aC_region ?_ <;> (refine yL 43 (q_ldao 4 tAgg25_LdS) fun v43 hv43 => ?_; cases hv43) <;> (refine cP 44 (cA Tryz.call92 hr) (fun va44 vb44 hva44 hvb44 => ?_) (hsh := r5.t E); cases hvb44) <;> refine xL 45 q_extract ?_ <;> refine xL 46 q_extract ?_ <;> refine s_sta 2 tAgg25_LdS ?_ <;> refine xL 3 q_assign ?_ <;> refine aL_end (nav ?_) <;> try dsimp only)
      exact ret_cs (k := 5) 2 (by kernel_rfl) (Tryz.results47) rfl rfl rfl (Nat.le_of_ble_eq_true rfl) (by decide) r5.s rfl)
theorem r07Reverse_e (a : Aut) (hla : a.moves.length ≤ 1000000) : AF Tryz.prog 47 [pAut a] (· = resW (revX a)) := by
 unfold revX
 cases hv : autOk a with
 | false => rw [if_neg (by simp)]; exact r07Reverse_bad a hla hv
 | true =>
   rw [if_pos rfl]
   have h := vok_of hv
   have hr := r07finish_e (mkA (revA a)) (Nat.le_trans (mkM_len _) (by show (turnM a.moves).length ≤ 1000000; rw [turnM_len]; exact hla))
   rw [revX_fin h]
   obtain ⟨p0, p1, p2, p3, p4, E, h5, h2⟩ := fin_5 (doneX (mkA (revA a)))
   rw [h2] at hr ⊢
   exact r07Reverse_g a hla hv h5 hr
theorem r07Concat_bad (a b : Aut) (e : Int) (he : ¬ e = 0) (hf : AF Tryz.prog 89 [pAut a, pAut b] (· = pInt e)) : AF Tryz.prog 43 [pAut a, pAut b] (· = .tup [rawZ, pInt e]) := by
 refine AF.of_body 103 Tryz.func43 rfl Tryz.ntmps43 (Nat.le_of_ble_eq_true rfl) ?_
 intro w0 M0 vs hl hv
 obtain ⟨v0, v1, rfl⟩ := len2 hl
 clear hl hv
 refine nav ?_
 (refine aC_region ?_ <;> refine s_boxa 2 5 fun h2 => ?_ <;> refine s_boxa 3 5 fun h3 => ?_ <;> refine s_alloc [(.int .i64 0), (.int .i64 0), (.slice none 0 0), (.slice none 0 0), (.slice none 0 0)] 5 4 tZr25_LfD fun h4 => ?_ <;> refine xL 5 q_assign ?_ <;> refine aL_end (nav ?_) <;> try dsimp only)
 (refine aC_region ?_ <;> (refine yL 11 (q_ldao 2 tAgg25_LdS) fun v11 hv11 => ?_; cases hv11) <;> (refine yL 12 (q_ldao 3 tAgg25_LdS) fun v12 hv12 => ?_; cases hv12) <;> (refine cS 13 (cA Tryz.call89 (hf)) fun v13 hv13 => ?_; cases hv13) <;> refine xL 6 q_assign ?_ <;> refine aL_end (nav ?_) <;> try dsimp only)
 (refine aC_region ?_ <;> refine xL 14 q_move ?_ <;> refine xL 15 q_neq ?_ <;> refine aL_end (nav ?_) <;> try dsimp only)
 (first | refine cCd ?_ ?_ | refine cC ?_ ?_) <;> intro hb15
 · refine nav ?_
   (refine aC_region ?_ <;> refine xL 16 (q_build tSt25_LfD) ?_ <;> refine xL 17 q_move ?_ <;> refine s_sta 4 tAgg25_LdS ?_ <;> refine xL 5 q_assign ?_ <;> refine aL_end (nav ?_) <;> try dsimp only)
   exact ret_cs (k := 5) 4 (by kernel_rfl) (Tryz.results43) rfl rfl rfl (Nat.le_of_ble_eq_true rfl) (by decide) rfl rfl
 · exact absurd (by simpa using hb15) he
set_option maxHeartbeats 4000000 in
theorem r07Concat_g (a b : Aut) (hla : a.moves.length ≤ 1000000) (hlb : b.moves.length ≤ 1000000) (hf0 : fitX a b = 0) {p0 p1 p2 p3 p4 : PV} {E : Int} (r5 : R5 p0 p1 p2 p3 p4) (hr : (catA a b).moves.length ≤ 20000 → AF Tryz.prog 92 [pAut (mkA (catA a b))] (· = .tup [.agg [p0, p1, p2, p3, p4], pInt E])) : AF Tryz.prog 43 [pAut a, pAut b] (· = if 2000 < a.n + b.n ∨ 20000 < (catA a b).moves.length then .tup [rawZ, pInt 13] else .tup [.agg [p0, p1, p2, p3, p4], pInt E]) := by
 obtain ⟨o0, o1, o2, o3, o4⟩ := r5.o
 obtain ⟨ha, hb, hs⟩ := fit_vok hf0
 have hf := r07given_e a b hla hlb
 rw [hf0] at hf
 have hn0 := ha.n0
 have hn1 := ha.n1
 have k0 := ha.ml
 have k1 := ha.sl
 have k2 := hb.sl
 have k3 := ha.fl
 have k4 := hb.fl
 have m0 := hb.n0
 have m1 := hb.n1
 have kml := bsM_len ha.toAOk hb.toAOk
 have kmb := hb.ml
 have l2 := addI_len a.n b.fin
 have l3 := addM_len a.n b.moves
 have hFS : a.fin.length * b.start.length ≤ 2000 * 2000 := Nat.mul_le_mul k3 k2
 have hFI : ((a.fin.length * b.start.length : Nat) : Int) = (a.fin.length : Int) * (b.start.length : Int) := Int.natCast_mul _ _
 have hcl := cat_len a b
 refine AF.of_body 103 Tryz.func43 rfl Tryz.ntmps43 (Nat.le_of_ble_eq_true rfl) ?_
 intro w0 M0 vs hl hv
 obtain ⟨v0, v1, rfl⟩ := len2 hl
 clear hl hv
 refine nav ?_
 (refine aC_region ?_ <;> refine s_boxa 2 5 fun h2 => ?_ <;> refine s_boxa 3 5 fun h3 => ?_ <;> refine s_alloc [(.int .i64 0), (.int .i64 0), (.slice none 0 0), (.slice none 0 0), (.slice none 0 0)] 5 4 tZr25_LfD fun h4 => ?_ <;> refine xL 5 q_assign ?_ <;> refine aL_end (nav ?_) <;> try dsimp only)
 (refine aC_region ?_ <;> (refine yL 11 (q_ldao 2 tAgg25_LdS) fun v11 hv11 => ?_; cases hv11) <;> (refine yL 12 (q_ldao 3 tAgg25_LdS) fun v12 hv12 => ?_; cases hv12) <;> (refine cS 13 (cA Tryz.call89 (hf)) fun v13 hv13 => ?_; cases hv13) <;> refine xL 6 q_assign ?_ <;> refine aL_end (nav ?_) <;> try dsimp only)
 (refine aC_region ?_ <;> refine xL 14 q_move ?_ <;> refine xL 15 q_neq ?_ <;> refine aL_end (nav ?_) <;> try dsimp only)
 (first | refine cCd ?_ ?_ | refine cC ?_ ?_) <;> intro hb15
 · first | omega | exact absurd rfl hb15 | exact Bool.noConfusion hb15
 · refine nav ?_
   (refine aC_region ?_ <;> refine xL 18 (q_fldo 2 tFl25_0_LdI) ?_ <;> (refine yL 19 (q_ldo 2 tNa3_LbB) fun v19 hv19 => ?_; cases hv19) <;> refine xL 7 q_assign ?_ <;> refine aL_end (nav ?_) <;> try dsimp only)
   refine aC_mid (fun h8 : Value => ⟨[(2, padd (sbase h2) 0, .val (padd (sbase h2) 0)), (3, padd (sbase h3) 0, .val (padd (sbase h3) 0)), (4, padd (sbase h4) 0, .val (padd (sbase h4) 0)), (7, .int .i64 a.n, pInt a.n), (8, padd (sbase h8) 0, .val (padd (sbase h8) 0))], [(2, h2, .own 25 5 1 [pInt a.n, pInt a.syms, pInts a.start, pInts a.fin, pMvs a.moves]), (3, h3, .own 25 5 1 [pInt b.n, pInt b.syms, pInts b.start, pInts b.fin, pMvs b.moves]), (4, h4, .own 25 5 1 [pInt 0, pInt 0, .val (.slice none 0 0), .val (.slice none 0 0), .val (.slice none 0 0)]), (8, h8, .own 25 5 1 [pInt (a.n + b.n), pInt a.syms, pInts a.start, pInts (addI a.n b.fin), .val (.slice none 0 0)])]⟩) ?_ ?_
   · (refine aC_draw (fun i => ([] : List Nat).elem i) [2, 3] (by kernel_rfl) ?_ <;> refine xD 0 20 rfl q_move ?_ <;> refine xD 1 21 rfl (q_fldo 3 tFl25_0_LdI) ?_ <;> (refine yD 2 22 rfl (q_ldo 3 tNa3_LbB) fun v22 hv22 => ?_; cases hv22) <;> refine xD 3 23 rfl q_add ?_ <;> refine xD 4 24 rfl (q_fldo 2 tFl25_1_LdI) ?_ <;> (refine yD 5 25 rfl (q_ldo 2 tNa3_LbB) fun v25 hv25 => ?_; cases hv25) <;> refine xD 6 26 rfl (q_fldo 2 tFl25_2_LdI) ?_ <;> (refine yD 7 27 rfl (q_ldo 2 tNa22_LdI) fun v27 hv27 => ?_; cases hv27) <;> refine xD 8 28 rfl (q_fldo 3 tFl25_3_LdI) ?_ <;> (refine yD 9 29 rfl (q_ldo 3 tNa22_LdI) fun v29 hv29 => ?_; cases hv29) <;> refine xD 10 30 rfl q_move ?_ <;> (refine aD_two 11 13 (by kernel_rfl) ?_ ?_; rotate_right; (focus ((refine aW_run rfl fun w9 M9 N9 DQ back => ?_) <;> refine s_alloc [(.int .i64 0), (.int .i64 0), (.slice none 0 0), (.slice none 0 0), (.slice none 0 0)] 5 8 tZr25_LfD fun h8 => ?_ <;> refine aL_end (back _ (nrm ?_)) <;> (refine aD_one 11 (by kernel_rfl) ?_) <;> (refine aW_run rfl fun w9 M9 N9 DQ back => ?_) <;> (refine cO 31 (cA Tryz.call94 (r07added_e b.fin a.n (by omega) (by omega) (fun x hx => by have := hb.fi x hx; omega))) fun v31 ho31 => ?_; refine aL_ent (En.freeze (l := 31) (t := 31) rfl rfl) fun _ => ?_; rw [share_ints _ _ _ rfl]) <;> refine aL_end (back _ (nrm ?_)) <;> refine xE 12 32 rfl (q_build tSt25_LfD) ?_ <;> (refine aD_one 14 (by kernel_rfl) ?_) <;> (refine aW_run rfl fun w9 M9 N9 DQ back => ?_) <;> refine s_sta 8 tAgg25_LdS ?_ <;> refine aL_end (back _ (nrm ?_)))); rotate_right; (focus ((refine aW_run rfl fun w9 M9 N9 DQ back => ?_) <;> (refine cO 31 (cA Tryz.call94 (r07added_e b.fin a.n (by omega) (by omega) (fun x hx => by have := hb.fi x hx; omega))) fun v31 ho31 => ?_; refine aL_ent (En.freeze (l := 31) (t := 31) rfl rfl) fun _ => ?_; rw [share_ints _ _ _ rfl]) <;> refine aL_end (back _ (nrm ?_)) <;> refine xD 12 32 rfl (q_build tSt25_LfD) ?_ <;> (refine aD_one 13 (by kernel_rfl) ?_) <;> (refine aW_run rfl fun w9 M9 N9 DQ back => ?_) <;> refine s_alloc [(.int .i64 0), (.int .i64 0), (.slice none 0 0), (.slice none 0 0), (.slice none 0 0)] 5 8 tZr25_LfD fun h8 => ?_ <;> refine aL_end (back _ (nrm ?_)) <;> (refine aD_one 14 (by kernel_rfl) ?_) <;> (refine aW_run rfl fun w9 M9 N9 DQ back => ?_) <;> refine s_sta 8 tAgg25_LdS ?_ <;> refine aL_end (back _ (nrm ?_))))) <;> refine aD_end (by kernel_rfl) (nav ?_) <;> try dsimp only) <;> (
      exact aN_join _ ⟨rfl, rfl, rfl, rfl, rfl, trivial⟩ ⟨rfl, rfl, rfl, rfl, trivial⟩)
   · rintro h8
     skip
     refine nav ?_
     (refine aC_region ?_ <;> refine xL 33 (q_fldo 8 tFl25_0_LdI) ?_ <;> (refine yL 34 (q_ldo 8 tNa3_LbB) fun v34 hv34 => ?_; cases hv34) <;> refine xL 35 q_gtr ?_ <;> refine xL 36 q_move ?_ <;> (refine bLd 36 (fun hb36 => ?_) (fun hb36 => ?_) <;> (first | refine kL 37 ?_ | refine xL 37 (q_fldo 2 tFl25_4_LdI) ?_)) <;> (first | refine kL 38 ?_ | (refine yL 38 (q_ldo 2 tNa23_LdI) fun v38 hv38 => ?_; cases hv38)) <;> (first | refine kL 39 ?_ | refine xL 39 (q_len tSl23_LdI) ?_) <;> (first | refine kL 40 ?_ | refine xL 40 (q_fldo 3 tFl25_4_LdI) ?_) <;> (first | refine kL 41 ?_ | (refine yL 41 (q_ldo 3 tNa23_LdI) fun v41 hv41 => ?_; cases hv41)) <;> (first | refine kL 42 ?_ | refine xL 42 (q_len tSl23_LdI) ?_) <;> (first | refine kL 43 ?_ | refine xL 43 q_add ?_) <;> (first | refine kL 44 ?_ | refine xL 44 (q_fldo 2 tFl25_3_LdI) ?_) <;> (first | refine kL 45 ?_ | (refine yL 45 (q_ldo 2 tNa22_LdI) fun v45 hv45 => ?_; cases hv45)) <;> (first | refine kL 46 ?_ | refine xL 46 (q_len tSl22_LbB) ?_) <;> (first | refine kL 47 ?_ | refine xL 47 (q_fldo 3 tFl25_2_LdI) ?_) <;> (first | refine kL 48 ?_ | (refine yL 48 (q_ldo 3 tNa22_LdI) fun v48 hv48 => ?_; cases hv48)) <;> (first | refine kL 49 ?_ | refine xL 49 (q_len tSl22_LbB) ?_) <;> (first | refine kL 50 ?_ | refine xL 50 q_mul ?_) <;> (first | refine kL 51 ?_ | refine xL 51 q_add ?_) <;> (first | refine kL 52 ?_ | refine xL 52 q_gtr ?_) <;> refine xL 53 q_pick ?_ <;> refine aL_end (nav ?_) <;> try dsimp only) <;> (
      (first | refine cCd ?_ ?_ | refine cC ?_ ?_) <;> intro hb53
      · first
        | exact Bool.noConfusion hb53
        | (
         refine nav ?_
         (refine aC_region ?_ <;> (refine cP 54 (cA Tryz.call75 (r07limit_e)) fun va54 vb54 hva54 hvb54 => ?_; cases hvb54) <;> refine xL 55 q_extract ?_ <;> refine xL 56 q_extract ?_ <;> refine s_sta 4 tAgg25_LdS ?_ <;> refine xL 5 q_assign ?_ <;> refine aL_end (nav ?_) <;> try dsimp only)
         exact ret_cs (k := 5) 4 (by kernel_rfl) (Tryz.results43) rfl rfl rfl (Nat.le_of_ble_eq_true rfl) (by decide) rfl (by rw [if_pos (by omega)]; rfl))
      · first
        | exact Bool.noConfusion hb53
        | (
         refine nav ?_
         have hnl : ¬ 2000 < a.n + b.n ∧ (catA a b).moves.length ≤ 20000 := by omega
         have hr := hr hnl.2
         refine aC_ent (nilCells (l := 8) [pInt (a.n + b.n), pInt a.syms, pInts a.start, pInts (addI a.n b.fin), .own 72 3 0 []] rfl rfl (fun i p p' h1 h2 => by
          match i with
          | 0 => cases h1; cases h2; exact .inl rfl
          | 1 => cases h1; cases h2; exact .inl rfl
          | 2 => cases h1; cases h2; exact .inl rfl
          | 3 => cases h1; cases h2; exact .inl rfl
          | 4 => cases h1; cases h2; exact .inr ⟨rfl, _, _, rfl⟩
          | i + 5 => simp at h2)) fun _ => ?_
         refine aC_ent (focusO (l := 8) (l' := 301) (j := 4) rfl rfl rfl rfl) fun i => ?_
         obtain ⟨v301, ho301⟩ := i
         dsimp only [List.set]
         (refine aC_draw (fun i => ([11] : List Nat).elem i) [2, 3, 8] (by kernel_rfl) ?_ <;> refine xD 0 57 rfl (q_fldo 8 tFl25_4_LdI) ?_ <;> (refine yD 1 58 rfl (q_ldo 8 tNa23_LdI) fun v58 hv58 => ?_; cases hv58) <;> refine xD 2 59 rfl (q_fldo 2 tFl25_4_LdI) ?_ <;> (refine yD 3 60 rfl (q_ldo 2 tNa23_LdI) fun v60 hv60 => ?_; cases hv60) <;> refine xD 5 62 rfl (q_fldo 3 tFl25_4_LdI) ?_ <;> (refine yD 6 63 rfl (q_ldo 3 tNa23_LdI) fun v63 hv63 => ?_; cases hv63) <;> refine xD 7 64 rfl q_move ?_ <;> (refine aD_one 4 (by kernel_rfl) ?_) <;> (refine aW_run rfl fun w9 M9 N9 DQ back => ?_) <;> refine s_apps 301 61 tEl23_LdR (fun h61 ho61 => ?_) (mvs_len3 a.moves) (cMv_one a.moves) <;> refine aL_end (back _ (nrm ?_)) <;> (refine aD_one 8 (by kernel_rfl) ?_) <;> (refine aW_run rfl fun w9 M9 N9 DQ back => ?_) <;> (refine cO 65 (cA Tryz.call95 (r07moved_e b a.n hb.toAOk (by omega))) fun v65 ho65 => ?_; refine aL_ent (En.freeze (l := 65) (t := 65) rfl rfl) fun _ => ?_; rw [share_mvl _ _ _ rfl]) <;> refine aL_end (back _ (nrm ?_)) <;> (refine aD_one 9 (by kernel_rfl) ?_) <;> (refine aW_run rfl fun w9 M9 N9 DQ back => ?_) <;> (refine s_apps 61 66 tEl23_LdR (fun h66 ho66 => ?_) (mvs_len3 (addM a.n b.moves)) (cMv_one (addM a.n b.moves)); have q66 : En.one (PV.val h66) = true := ho66) <;> refine aL_end (back _ (nrm ?_)) <;> refine xE 10 67 rfl (q_fldo 8 tFl25_4_LdI) ?_ <;> (refine aD_one 11 (by kernel_rfl) ?_) <;> (refine aW_last rfl rfl (by kernel_rfl) fun DQ back => ?_) <;> refine s_st 8 tNa23_LdI tSz23_LdR ?_ <;> refine aL_end (back _ (nav ?_)) <;> try dsimp only)
         refine aC_ent (recast (l := 66) (p' := .own 72 3 (bsM a b).length ((bsM a b).flatMap cMv)) rfl (by (try rw [Nat.zero_add]); (try rw [List.nil_append]); rw [← List.flatMap_append, ← List.length_append]; rfl)) fun _ => ?_
         refine aC_ent (freezeCell (l := 8) (l' := 66) (j := 4) rfl rfl rfl rfl) fun _ => ?_
         rw [share_mvl _ _ _ rfl]
         refine aC_ent (recast (l := 8) (p' := .own 25 5 1 [pInt (a.n + b.n), pInt a.syms, pInts a.start, pInts (addI a.n b.fin), pMvs (mkM (ctM a b 0))]) rfl (by rw [ctM_zero, show mkM (bsM a b) = bsM a b from mk_asc (both_asc ha hb)]; rfl)) fun _ => ?_
         (refine aC_region ?_ <;> refine xL 9 q_assign ?_ <;> refine aL_end (nav ?_) <;> try dsimp only)
         refine aC_loop (ι := { k : Nat // k ≤ a.fin.length }) (fun k => ⟨[(2, _, _), (3, _, _), (4, _, _), (7, _, _), (8, _, _), (9, .int .i64 k.1, pInt k.1)], [(2, _, _), (3, _, _), (4, _, _), (8, h8, .own 25 5 1 [pInt (a.n + b.n), pInt a.syms, pInts a.start, pInts (addI a.n b.fin), pMvs (mkM (ctM a b k.1))])]⟩) (fun k => a.fin.length - k.1) ⟨0, Nat.zero_le _⟩ (fun a w H => H.weaken ⟨rfl, rfl, rfl, rfl, rfl, rfl, trivial⟩ ⟨rfl, rfl, rfl, rfl, trivial⟩) ?_
         rintro ⟨i, hi⟩
         dsimp only
         refine nav ?_
         (refine aC_region ?_ <;> refine xL 68 q_move ?_ <;> refine xL 69 (q_fldo 2 tFl25_3_LdI) ?_ <;> (refine yL 70 (q_ldo 2 tNa22_LdI) fun v70 hv70 => ?_; cases hv70) <;> refine xL 71 (q_len tSl22_LbB) ?_ <;> refine xL 72 q_lss ?_ <;> refine aL_end (nav ?_) <;> try dsimp only)
         (first | refine cCd ?_ ?_ | refine cC ?_ ?_) <;> intro hb72
         · first
           | exact Bool.noConfusion hb72
           | (
            obtain ⟨f, hf⟩ := get_some (show i < a.fin.length by omega)
            have e1 := map_at (f := pInt) hf
            have hfin := ha.fi f (List.mem_of_getElem? hf)
            refine nav ?_
            (refine aC_region ?_ <;> refine xL 10 q_assign ?_ <;> refine aL_end (nav ?_) <;> try dsimp only)
            refine aC_ent (recast (l := 8) (p' := .own 25 5 1 [pInt (a.n + b.n), pInt a.syms, pInts a.start, pInts (addI a.n b.fin), pMvs (mkM (ctM a b i ++ epsR a.n f (b.start.take 0)))]) rfl (by rw [show epsR a.n f (b.start.take 0) = [] from rfl, List.append_nil])) fun _ => ?_
            refine aC_loop (ι := { k : Nat // k ≤ b.start.length }) (fun k => ⟨[(2, _, _), (3, _, _), (4, _, _), (7, _, _), (8, _, _), (9, _, _), (10, .int .i64 k.1, pInt k.1)], [(2, _, _), (3, _, _), (4, _, _), (8, h8, .own 25 5 1 [pInt (a.n + b.n), pInt a.syms, pInts a.start, pInts (addI a.n b.fin), pMvs (mkM (ctM a b i ++ epsR a.n f (b.start.take k.1)))])]⟩) (fun k => b.start.length - k.1) ⟨0, Nat.zero_le _⟩ (fun a w H => H.weaken ⟨rfl, rfl, rfl, rfl, rfl, rfl, rfl, trivial⟩ ⟨rfl, rfl, rfl, rfl, trivial⟩) ?_
            rintro ⟨j, hj⟩
            dsimp only
            refine nav ?_
            (refine aC_region ?_ <;> refine xL 75 q_move ?_ <;> refine xL 76 (q_fldo 3 tFl25_2_LdI) ?_ <;> (refine yL 77 (q_ldo 3 tNa22_LdI) fun v77 hv77 => ?_; cases hv77) <;> refine xL 78 (q_len tSl22_LbB) ?_ <;> refine xL 79 q_lss ?_ <;> refine aL_end (nav ?_) <;> try dsimp only)
            (first | refine cCd ?_ ?_ | refine cC ?_ ?_) <;> intro hb79
            · first
              | exact Bool.noConfusion hb79
              | (
               obtain ⟨s, hs⟩ := get_some (show j < b.start.length by omega)
               have e2 := map_at (f := pInt) hs
               have hsin := hb.st s (List.mem_of_getElem? hs)
               have hpart := ct_part f (lt_of_get hf) hj
               have hins : AF Tryz.prog 91 [pMvs (mkM (ctM a b i ++ epsR a.n f (b.start.take j))), .agg (cMv ⟨f, a.n + s, -1⟩)] (· = pMvs (mkM (ctM a b i ++ epsR a.n f (b.start.take (j + 1))))) := by
                have h1 := r07insert_e (mkM (ctM a b i ++ epsR a.n f (b.start.take j))) ⟨f, a.n + s, -1⟩ (Nat.le_trans (mkM_len _) (by omega)) (mkM_asc _)
                rw [ins_mk, List.append_assoc, Int.add_comm a.n s, ← epsR_snoc a.n f hs] at h1
                rw [Int.add_comm a.n s]
                exact h1
               refine nav ?_
               (refine aC_draw (fun i => ([17] : List Nat).elem i) [2, 3, 8] (by kernel_rfl) ?_ <;> refine xD 0 82 rfl (q_fldo 8 tFl25_4_LdI) ?_ <;> (refine yD 1 83 rfl (q_ldo 8 tNa23_LdI) fun v83 hv83 => ?_; cases hv83) <;> refine xD 2 84 rfl (q_fldo 2 tFl25_3_LdI) ?_ <;> (refine yD 3 85 rfl (q_ldo 2 tNa22_LdI) fun v85 hv85 => ?_; cases hv85) <;> refine xD 4 86 rfl q_move ?_ <;> refine xD 5 87 rfl (q_idxN tSl22_LbB) ?_ <;> (refine yD 6 88 rfl (q_ld tNa3_LbB) fun v88 hv88 => ?_; cases hv88) <;> refine xD 7 89 rfl q_move ?_ <;> refine xD 8 90 rfl (q_fldo 3 tFl25_2_LdI) ?_ <;> (refine yD 9 91 rfl (q_ldo 3 tNa22_LdI) fun v91 hv91 => ?_; cases hv91) <;> refine xE 10 92 rfl q_move ?_ <;> refine xE 11 93 rfl (q_idxN tSl22_LbB) ?_ <;> (refine yE 12 94 rfl (q_ld tNa3_LbB) fun v94 hv94 => ?_; cases hv94) <;> refine xE 13 95 rfl q_add ?_ <;> refine xE 14 96 rfl (q_build tSt72_LfD) ?_ <;> (refine aD_one 15 (by kernel_rfl) ?_) <;> (refine aW_run rfl fun w9 M9 N9 DQ back => ?_) <;> (refine cS 97 (cA Tryz.call91 (hins)) fun v97 hv97 => ?_; cases hv97) <;> refine aL_end (back _ (nrm ?_)) <;> refine xE 16 98 rfl (q_fldo 8 tFl25_4_LdI) ?_ <;> (refine aD_one 17 (by kernel_rfl) ?_) <;> (refine aW_last rfl rfl (by kernel_rfl) fun DQ back => ?_) <;> refine s_st 8 tNa23_LdI tSz23_LdR ?_ <;> refine aL_end (back _ (nav ?_)) <;> try dsimp only)
               (refine aC_region ?_ <;> refine xL 80 q_move ?_ <;> refine xL 81 q_add ?_ <;> refine xL 10 q_assign ?_ <;> refine aL_end (nav ?_) <;> try dsimp only)
               refine aN_again (
                ⟨j + 1, lt_of_get hs⟩
                ) (by dsimp only; omega) ⟨rfl, rfl, rfl, rfl, rfl, rfl, rfl, trivial⟩ ⟨rfl, rfl, rfl, rfl, trivial⟩)
            · first
              | exact Bool.noConfusion hb79
              | (
               refine aC_ent (recast (l := 8) (p' := .own 25 5 1 [pInt (a.n + b.n), pInt a.syms, pInts a.start, pInts (addI a.n b.fin), pMvs (mkM (ctM a b (i + 1)))]) rfl (by rw [show ctM a b i ++ epsR a.n f (b.start.take j) = ctM a b (i + 1) by rw [List.take_of_length_le (show b.start.length ≤ j by omega), ctM_snoc hf]])) fun _ => ?_
               refine nav ?_
               (refine aC_region ?_ <;> refine xL 73 q_move ?_ <;> refine xL 74 q_add ?_ <;> refine xL 9 q_assign ?_ <;> refine aL_end (nav ?_) <;> try dsimp only)
               refine aN_again (
                ⟨i + 1, lt_of_get hf⟩
                ) (by dsimp only; omega) ⟨rfl, rfl, rfl, rfl, rfl, rfl, trivial⟩ ⟨rfl, rfl, rfl, rfl, trivial⟩))
         · first
           | exact Bool.noConfusion hb72
           | (
            rw [ctM_all a b (show a.fin.length ≤ i by omega)]
            refine nav ?_
            (refine aC_region ?_ <;> (refine yL 99 (q_ldao 8 tAgg25_LdS) fun v99 hv99 => ?_; cases hv99) <;> (refine cP 100 (cA Tryz.call92 hr) (fun va100 vb100 hva100 hvb100 => ?_) (hsh := r5.t E); cases hvb100) <;> refine xL 101 q_extract ?_ <;> refine xL 102 q_extract ?_ <;> refine s_sta 4 tAgg25_LdS ?_ <;> refine xL 5 q_assign ?_ <;> refine aL_end (nav ?_) <;> try dsimp only)
            exact ret_cs (k := 5) 4 (by kernel_rfl) (Tryz.results43) rfl rfl rfl (Nat.le_of_ble_eq_true rfl) (by decide) r5.s (by rw [if_neg (by omega)]; rfl))))
theorem r07Concat_e (a b : Aut) (hla : a.moves.length ≤ 1000000) (hlb : b.moves.length ≤ 1000000) : AF Tryz.prog 43 [pAut a, pAut b] (· = resW (catX a b)) := by
 unfold catX
 by_cases h0 : fitX a b = 0
 · rw [if_neg (fun h => h h0)]
   obtain ⟨ha, hb, hs⟩ := fit_vok h0
   rw [catX_fin ha hb hs]
   obtain ⟨p0, p1, p2, p3, p4, E, h5, h2⟩ := fin_5 (doneX (mkA (catA a b)))
   refine (r07Concat_g a b hla hlb h0 h5 (E := E) fun hl => ?_).mono fun p hp => ?_
   · have hr := r07finish_e (mkA (catA a b)) (Nat.le_trans (mkM_len _) (by omega))
     rw [h2] at hr; exact hr
   · rw [hp]
     split
     · rename_i h
       rw [doneX_cat ha hb (by rw [← cat_len]; exact h)]; rfl
     · exact h2.symm
 · rw [if_pos h0]
   exact r07Concat_bad a b _ h0 (r07given_e a b hla hlb)
end Go.Proofs.YtgigclnaicbiaaaGreatDoor
