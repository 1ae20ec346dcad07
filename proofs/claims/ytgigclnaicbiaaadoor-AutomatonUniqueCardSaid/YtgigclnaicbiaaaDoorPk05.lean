/-
  Walks: automata: both, compare, Equivalent, Included, Product.
  Walks: words, moves, automata are compared; the law's bounds (layer 7).
  Plain laws: the words of an automaton, in a form that is evaluated. No program in sight.
  Plain laws: the chapter's automaton is evaluated. No program in sight.
  Walks: automata are compared; the law's bounds; the chapter's automaton (layer 7).
  Plain laws: the chapter's automaton, its star, what they are compared with, evaluated. No program in sight.
  Walks: awake (layer 7).
  The engine, last part: arguments of whatever shape, as they came in, read as plain data; and the frame of a law's row. No program in sight.
  The engine: a struct of five fields read as an argument. No program in sight.
  How the arguments of the laws read; what is handed back, as one automaton and one number; the law on Minimal and Complement (layer 7).
  Plain laws: the language of a table; classes are those of languages; the minimal automaton is told by the language. No program in sight.
  Walks: which words an automaton accepts.
  Plain laws: the language of an automaton; minimal automata of automata. No program in sight.
  Plain laws: what the operations' results accept; ways. No program in sight.
  Plain laws: automata side by side; unions, concatenations, reversals. No program in sight.
  Plain laws: what the reference finishes; a move put in its place. No program in sight.
  Plain laws: shuffles. No program in sight.
  Plain laws: the words of unions, concatenations, stars, reversals, shuffles. No program in sight.
  Plain laws: searches go by ages; first words of products. No program in sight.
  Plain laws: minimal automata are unique; first differences. No program in sight.
-/
import Derived.WalkKit
import Derived.ProofKit
import Derived.OpenShut
import Derived.ShutString
import Derived.ChangeOld
import Derived.Below
import Derived.Carry
import Derived.Deep.Slices
import Derived.Test.YtgigclnaicbiaaaDoorPk04
import Derived.Test.YtgigclnaicbiaaaDoorPk03
import Derived.Test.YtgigclnaicbiaaaDoorPk02
namespace Go.Proofs.YtgigclnaicbiaaaDoor
open Go.RowKit Go.Cb Go.En
set_option linter.all false
set_option maxRecDepth 100000
theorem fit_no1 {a b : Aut} (h : autOk a = false) : fitX a b = 1 := by unfold fitX; rw [if_pos (.inl h)]
theorem fit_no2 {a b : Aut} (h : autOk b = false) : fitX a b = 1 := by unfold fitX; rw [if_pos (.inr h)]
theorem fit_ne {a b : Aut} (h1 : autOk a = true) (h2 : autOk b = true) (h : ¬ a.syms = b.syms) : fitX a b = 29 := by unfold fitX; rw [if_neg (by rw [h1, h2]; simp), if_pos h]
theorem fit_ok {a b : Aut} (h1 : autOk a = true) (h2 : autOk b = true) (h : a.syms = b.syms) : fitX a b = 0 := by unfold fitX; rw [if_neg (by rw [h1, h2]; simp), if_neg (fun e => e h)]
theorem fit_zero {a b : Aut} (h : fitX a b = 0) : autOk a = true ∧ autOk b = true ∧ a.syms = b.syms := by
 unfold fitX at h
 split at h
 · omega
 · rename_i h1
   split at h
   · omega
   · rename_i h2
     refine ⟨?_, ?_, ?_⟩
     · cases e : autOk a with
       | true => rfl
       | false => exact absurd (.inl e) h1
     · cases e : autOk b with
       | true => rfl
       | false => exact absurd (.inr e) h1
     · exact Decidable.not_not.1 h2
def pPZ : PV := .agg [pInt 0, .val (.slice none 0 0), .val (.slice none 0 0), .val (.slice none 0 0), .val (.slice none 0 0)]
def resB (a b : Aut) (op : Int) : PV := match bothX a b with
 | .ok (A, B, q) => .tup [pPairs A B op q, pInt 0]
 | .error e => .tup [pPZ, pInt e]
theorem aFit_ff (a b : Aut) (ha : autOk a = false) (hb : autOk b = false) (hs : True) : AF Tryd.prog 36 [pAut a, pAut b] (· = pInt 1) := by
 have hva := aValid_e a
 have hvb := aValid_e b
 rw [ha] at hva
 rw [hb] at hvb
 refine AF.of_body 20 Tryd.func36 rfl Tryd.ntmps36 (Nat.le_of_ble_eq_true rfl) ?_
 intro w0 M0 vs hl hv
 obtain ⟨v0, v1, rfl⟩ := len2 hl
 clear hl hv
 refine nav ?_
 (refine aC_region ?_ <;> refine s_boxa 2 5 fun h2 => ?_ <;> refine s_boxa 3 5 fun h3 => ?_ <;> refine xL 4 q_assign ?_ <;> refine aL_end (nav ?_) <;> try dsimp only)
 (refine aC_region ?_ <;> (refine yL 6 (q_ldao 2 tAgg25_LdS) fun v6 hv6 => ?_; cases hv6) <;> (refine cS 7 (cA Tryd.call18 (hva)) fun v7 hv7 => ?_; cases hv7) <;> refine xL 8 q_not ?_ <;> refine xL 9 q_move ?_ <;> refine kL 10 ?_ <;> refine kL 11 ?_ <;> refine kL 12 ?_ <;> refine xL 13 q_pick ?_ <;> refine xL 5 q_assign ?_ <;> refine aL_end (nav ?_) <;> try dsimp only) <;> (
  (first | refine cCd ?_ ?_ | refine cC ?_ ?_) <;> intro hb5
  · first
    | exact Bool.noConfusion hb5
    | (
     refine nav ?_
     (refine aC_region ?_ <;> refine xL 4 q_assign ?_ <;> refine aL_end (nav ?_) <;> try dsimp only)
     exact ret_shr (Tryd.results36) rfl rfl)
  · first
    | exact Bool.noConfusion hb5
    | skip)
theorem aFit_ft (a b : Aut) (ha : autOk a = false) (hb : autOk b = true) (hs : True) : AF Tryd.prog 36 [pAut a, pAut b] (· = pInt 1) := by
 have hva := aValid_e a
 have hvb := aValid_e b
 rw [ha] at hva
 rw [hb] at hvb
 refine AF.of_body 20 Tryd.func36 rfl Tryd.ntmps36 (Nat.le_of_ble_eq_true rfl) ?_
 intro w0 M0 vs hl hv
 obtain ⟨v0, v1, rfl⟩ := len2 hl
 clear hl hv
 refine nav ?_
 (refine aC_region ?_ <;> refine s_boxa 2 5 fun h2 => ?_ <;> refine s_boxa 3 5 fun h3 => ?_ <;> refine xL 4 q_assign ?_ <;> refine aL_end (nav ?_) <;> try dsimp only)
 (refine aC_region ?_ <;> (refine yL 6 (q_ldao 2 tAgg25_LdS) fun v6 hv6 => ?_; cases hv6) <;> (refine cS 7 (cA Tryd.call18 (hva)) fun v7 hv7 => ?_; cases hv7) <;> refine xL 8 q_not ?_ <;> refine xL 9 q_move ?_ <;> refine kL 10 ?_ <;> refine kL 11 ?_ <;> refine kL 12 ?_ <;> refine xL 13 q_pick ?_ <;> refine xL 5 q_assign ?_ <;> refine aL_end (nav ?_) <;> try dsimp only) <;> (
  (first | refine cCd ?_ ?_ | refine cC ?_ ?_) <;> intro hb5
  · first
    | exact Bool.noConfusion hb5
    | (
     refine nav ?_
     (refine aC_region ?_ <;> refine xL 4 q_assign ?_ <;> refine aL_end (nav ?_) <;> try dsimp only)
     exact ret_shr (Tryd.results36) rfl rfl)
  · first
    | exact Bool.noConfusion hb5
    | skip)
theorem aFit_tf (a b : Aut) (ha : autOk a = true) (hb : autOk b = false) (hs : True) : AF Tryd.prog 36 [pAut a, pAut b] (· = pInt 1) := by
 have hva := aValid_e a
 have hvb := aValid_e b
 rw [ha] at hva
 rw [hb] at hvb
 refine AF.of_body 20 Tryd.func36 rfl Tryd.ntmps36 (Nat.le_of_ble_eq_true rfl) ?_
 intro w0 M0 vs hl hv
 obtain ⟨v0, v1, rfl⟩ := len2 hl
 clear hl hv
 refine nav ?_
 (refine aC_region ?_ <;> refine s_boxa 2 5 fun h2 => ?_ <;> refine s_boxa 3 5 fun h3 => ?_ <;> refine xL 4 q_assign ?_ <;> refine aL_end (nav ?_) <;> try dsimp only)
 (refine aC_region ?_ <;> (refine yL 6 (q_ldao 2 tAgg25_LdS) fun v6 hv6 => ?_; cases hv6) <;> (refine cS 7 (cA Tryd.call18 (hva)) fun v7 hv7 => ?_; cases hv7) <;> refine xL 8 q_not ?_ <;> refine xL 9 q_move ?_ <;> (refine yL 10 (q_ldao 3 tAgg25_LdS) fun v10 hv10 => ?_; cases hv10) <;> (refine cS 11 (cA Tryd.call18 (hvb)) fun v11 hv11 => ?_; cases hv11) <;> refine xL 12 q_not ?_ <;> refine xL 13 q_pick ?_ <;> refine xL 5 q_assign ?_ <;> refine aL_end (nav ?_) <;> try dsimp only) <;> (
  (first | refine cCd ?_ ?_ | refine cC ?_ ?_) <;> intro hb5
  · first
    | exact Bool.noConfusion hb5
    | (
     refine nav ?_
     (refine aC_region ?_ <;> refine xL 4 q_assign ?_ <;> refine aL_end (nav ?_) <;> try dsimp only)
     exact ret_shr (Tryd.results36) rfl rfl)
  · first
    | exact Bool.noConfusion hb5
    | skip)
theorem aFit_tn (a b : Aut) (ha : autOk a = true) (hb : autOk b = true) (hs : ¬ a.syms = b.syms) : AF Tryd.prog 36 [pAut a, pAut b] (· = pInt 29) := by
 have hva := aValid_e a
 have hvb := aValid_e b
 rw [ha] at hva
 rw [hb] at hvb
 refine AF.of_body 20 Tryd.func36 rfl Tryd.ntmps36 (Nat.le_of_ble_eq_true rfl) ?_
 intro w0 M0 vs hl hv
 obtain ⟨v0, v1, rfl⟩ := len2 hl
 clear hl hv
 refine nav ?_
 (refine aC_region ?_ <;> refine s_boxa 2 5 fun h2 => ?_ <;> refine s_boxa 3 5 fun h3 => ?_ <;> refine xL 4 q_assign ?_ <;> refine aL_end (nav ?_) <;> try dsimp only)
 (refine aC_region ?_ <;> (refine yL 6 (q_ldao 2 tAgg25_LdS) fun v6 hv6 => ?_; cases hv6) <;> (refine cS 7 (cA Tryd.call18 (hva)) fun v7 hv7 => ?_; cases hv7) <;> refine xL 8 q_not ?_ <;> refine xL 9 q_move ?_ <;> (refine yL 10 (q_ldao 3 tAgg25_LdS) fun v10 hv10 => ?_; cases hv10) <;> (refine cS 11 (cA Tryd.call18 (hvb)) fun v11 hv11 => ?_; cases hv11) <;> refine xL 12 q_not ?_ <;> refine xL 13 q_pick ?_ <;> refine xL 5 q_assign ?_ <;> refine aL_end (nav ?_) <;> try dsimp only) <;> (
  (first | refine cCd ?_ ?_ | refine cC ?_ ?_) <;> intro hb5
  · first
    | exact Bool.noConfusion hb5
    | (
     refine nav ?_
     (refine aC_region ?_ <;> refine xL 4 q_assign ?_ <;> refine aL_end (nav ?_) <;> try dsimp only)
     exact ret_shr (Tryd.results36) rfl rfl)
  · first
    | exact Bool.noConfusion hb5
    | (
     refine nav ?_
     (refine aC_region ?_ <;> refine xL 15 (q_fldo 2 tFl25_1_LdI) ?_ <;> (refine yL 16 (q_ldo 2 tNa3_LbB) fun v16 hv16 => ?_; cases hv16) <;> refine xL 17 (q_fldo 3 tFl25_1_LdI) ?_ <;> (refine yL 18 (q_ldo 3 tNa3_LbB) fun v18 hv18 => ?_; cases hv18) <;> refine xL 19 q_neq ?_ <;> refine xL 14 q_assign ?_ <;> refine aL_end (nav ?_) <;> try dsimp only)
     (first | refine cCd ?_ ?_ | refine cC ?_ ?_) <;> intro hb14
     · first
       | exact Bool.noConfusion hb14
       | (
        refine nav ?_
        (refine aC_region ?_ <;> refine xL 4 q_assign ?_ <;> refine aL_end (nav ?_) <;> try dsimp only)
        first | exact ret_shr (Tryd.results36) rfl rfl | exact absurd hs (by simpa using hb14))
     · first
       | exact Bool.noConfusion hb14
       | (
        refine nav ?_
        (refine aC_region ?_ <;> refine xL 4 q_assign ?_ <;> refine aL_end (nav ?_) <;> try dsimp only)
        first | exact ret_shr (Tryd.results36) rfl rfl | exact absurd (by simpa using hb14) hs)))
theorem aFit_tt (a b : Aut) (ha : autOk a = true) (hb : autOk b = true) (hs : a.syms = b.syms) : AF Tryd.prog 36 [pAut a, pAut b] (· = pInt 0) := by
 have hva := aValid_e a
 have hvb := aValid_e b
 rw [ha] at hva
 rw [hb] at hvb
 refine AF.of_body 20 Tryd.func36 rfl Tryd.ntmps36 (Nat.le_of_ble_eq_true rfl) ?_
 intro w0 M0 vs hl hv
 obtain ⟨v0, v1, rfl⟩ := len2 hl
 clear hl hv
 refine nav ?_
 (refine aC_region ?_ <;> refine s_boxa 2 5 fun h2 => ?_ <;> refine s_boxa 3 5 fun h3 => ?_ <;> refine xL 4 q_assign ?_ <;> refine aL_end (nav ?_) <;> try dsimp only)
 (refine aC_region ?_ <;> (refine yL 6 (q_ldao 2 tAgg25_LdS) fun v6 hv6 => ?_; cases hv6) <;> (refine cS 7 (cA Tryd.call18 (hva)) fun v7 hv7 => ?_; cases hv7) <;> refine xL 8 q_not ?_ <;> refine xL 9 q_move ?_ <;> (refine yL 10 (q_ldao 3 tAgg25_LdS) fun v10 hv10 => ?_; cases hv10) <;> (refine cS 11 (cA Tryd.call18 (hvb)) fun v11 hv11 => ?_; cases hv11) <;> refine xL 12 q_not ?_ <;> refine xL 13 q_pick ?_ <;> refine xL 5 q_assign ?_ <;> refine aL_end (nav ?_) <;> try dsimp only) <;> (
  (first | refine cCd ?_ ?_ | refine cC ?_ ?_) <;> intro hb5
  · first
    | exact Bool.noConfusion hb5
    | (
     refine nav ?_
     (refine aC_region ?_ <;> refine xL 4 q_assign ?_ <;> refine aL_end (nav ?_) <;> try dsimp only)
     exact ret_shr (Tryd.results36) rfl rfl)
  · first
    | exact Bool.noConfusion hb5
    | (
     refine nav ?_
     (refine aC_region ?_ <;> refine xL 15 (q_fldo 2 tFl25_1_LdI) ?_ <;> (refine yL 16 (q_ldo 2 tNa3_LbB) fun v16 hv16 => ?_; cases hv16) <;> refine xL 17 (q_fldo 3 tFl25_1_LdI) ?_ <;> (refine yL 18 (q_ldo 3 tNa3_LbB) fun v18 hv18 => ?_; cases hv18) <;> refine xL 19 q_neq ?_ <;> refine xL 14 q_assign ?_ <;> refine aL_end (nav ?_) <;> try dsimp only)
     (first | refine cCd ?_ ?_ | refine cC ?_ ?_) <;> intro hb14
     · first
       | exact Bool.noConfusion hb14
       | (
        refine nav ?_
        (refine aC_region ?_ <;> refine xL 4 q_assign ?_ <;> refine aL_end (nav ?_) <;> try dsimp only)
        first | exact ret_shr (Tryd.results36) rfl rfl | exact absurd hs (by simpa using hb14))
     · first
       | exact Bool.noConfusion hb14
       | (
        refine nav ?_
        (refine aC_region ?_ <;> refine xL 4 q_assign ?_ <;> refine aL_end (nav ?_) <;> try dsimp only)
        first | exact ret_shr (Tryd.results36) rfl rfl | exact absurd (by simpa using hb14) hs)))
theorem aFit_e (a b : Aut) : AF Tryd.prog 36 [pAut a, pAut b] (· = pInt (fitX a b)) := by
 cases ha : autOk a
 · rw [fit_no1 ha]
   cases hb : autOk b
   · exact aFit_ff a b ha hb trivial
   · exact aFit_ft a b ha hb trivial
 · cases hb : autOk b
   · rw [fit_no2 hb]; exact aFit_tf a b ha hb trivial
   · by_cases hs : a.syms = b.syms
     · rw [fit_ok ha hb hs]; exact aFit_tt a b ha hb hs
     · rw [fit_ne ha hb hs]; exact aFit_tn a b ha hb hs
theorem aBoth_oe (a b : Aut) (op : Int) {A : Aut} (ha : AF Tryd.prog 19 [pAut a] (· = .tup [pAut A, pInt 0])) (hb : AF Tryd.prog 19 [pAut b] (· = .tup [rawZ, pInt 13])) : AF Tryd.prog 37 [pAut a, pAut b, pInt op] (· = .tup [pPZ, pInt 13]) := by
 refine AF.of_body 42 Tryd.func37 rfl Tryd.ntmps37 (Nat.le_of_ble_eq_true rfl) ?_
 intro w0 M0 vs hl hv
 obtain ⟨v0, v1, v2, rfl⟩ := len3 hl
 obtain rfl := hv 2 _ _ rfl rfl
 clear hl hv
 refine nav ?_
 (refine aC_region ?_ <;> refine s_boxa 3 5 fun h3 => ?_ <;> refine s_boxa 4 5 fun h4 => ?_ <;> refine s_alloc [(.int .i64 0), (.slice none 0 0), (.slice none 0 0), (.slice none 0 0), (.slice none 0 0)] 5 6 tZr69_LfP fun h6 => ?_ <;> refine xL 7 q_assign ?_ <;> refine aL_end (nav ?_) <;> try dsimp only)
 (refine aC_region ?_ <;> (refine yL 15 (q_ldao 3 tAgg25_LdS) fun v15 hv15 => ?_; cases hv15) <;> (refine cP 16 (cA Tryd.call19 (ha)) fun va16 vb16 hva16 hvb16 => ?_; cases hvb16) <;> refine xL 14 q_move ?_ <;> refine xL 17 q_extract ?_ <;> refine xL 18 q_extract ?_ <;> refine s_alloc [(.int .i64 0), (.int .i64 0), (.slice none 0 0), (.slice none 0 0), (.slice none 0 0)] 5 8 tZr25_LfD fun h8 => ?_ <;> refine s_sta 8 tAgg25_LdS ?_ <;> refine xL 9 q_assign ?_ <;> refine aL_end (nav ?_) <;> try dsimp only)
 (refine aC_region ?_ <;> (refine yL 20 (q_ldao 4 tAgg25_LdS) fun v20 hv20 => ?_; cases hv20) <;> (refine cP 21 (cA Tryd.call19 (hb)) fun va21 vb21 hva21 hvb21 => ?_; cases hvb21) <;> refine xL 19 q_move ?_ <;> refine xL 22 q_extract ?_ <;> refine xL 23 q_extract ?_ <;> refine s_alloc [(.int .i64 0), (.int .i64 0), (.slice none 0 0), (.slice none 0 0), (.slice none 0 0)] 5 10 tZr25_LfD fun h10 => ?_ <;> refine s_sta 10 tAgg25_LdS ?_ <;> refine xL 11 q_assign ?_ <;> refine aL_end (nav ?_) <;> try dsimp only)
 (refine aC_region ?_ <;> refine xL 24 q_move ?_ <;> refine xL 25 q_neq ?_ <;> refine xL 26 q_move ?_ <;> refine xL 27 q_move ?_ <;> refine xL 28 q_neq ?_ <;> refine xL 29 q_pick ?_ <;> refine aL_end (nav ?_) <;> try dsimp only) <;> (
  (first | refine cCd ?_ ?_ | refine cC ?_ ?_) <;> intro hb29
  · refine nav ?_
    (refine aC_region ?_ <;> refine xL 30 (q_build0 stPairs rfl) ?_ <;> refine s_sta 6 tAgg69_LfP ?_ <;> refine xL 7 q_assign ?_ <;> refine aL_end (nav ?_) <;> try dsimp only)
    exact ret_cs (k := 5) 6 (by kernel_rfl) (Tryd.results37) rfl rfl rfl (Nat.le_of_ble_eq_true rfl) (by decide) rfl rfl
  · first | omega | exact absurd (by decide) hb29 | exact Bool.noConfusion hb29)
theorem aBoth_eo (a b : Aut) (op : Int) {A : Aut} (ha : AF Tryd.prog 19 [pAut a] (· = .tup [rawZ, pInt 13])) (hb : AF Tryd.prog 19 [pAut b] (· = .tup [pAut A, pInt 0])) : AF Tryd.prog 37 [pAut a, pAut b, pInt op] (· = .tup [pPZ, pInt 13]) := by
 refine AF.of_body 42 Tryd.func37 rfl Tryd.ntmps37 (Nat.le_of_ble_eq_true rfl) ?_
 intro w0 M0 vs hl hv
 obtain ⟨v0, v1, v2, rfl⟩ := len3 hl
 obtain rfl := hv 2 _ _ rfl rfl
 clear hl hv
 refine nav ?_
 (refine aC_region ?_ <;> refine s_boxa 3 5 fun h3 => ?_ <;> refine s_boxa 4 5 fun h4 => ?_ <;> refine s_alloc [(.int .i64 0), (.slice none 0 0), (.slice none 0 0), (.slice none 0 0), (.slice none 0 0)] 5 6 tZr69_LfP fun h6 => ?_ <;> refine xL 7 q_assign ?_ <;> refine aL_end (nav ?_) <;> try dsimp only)
 (refine aC_region ?_ <;> (refine yL 15 (q_ldao 3 tAgg25_LdS) fun v15 hv15 => ?_; cases hv15) <;> (refine cP 16 (cA Tryd.call19 (ha)) fun va16 vb16 hva16 hvb16 => ?_; cases hvb16) <;> refine xL 14 q_move ?_ <;> refine xL 17 q_extract ?_ <;> refine xL 18 q_extract ?_ <;> refine s_alloc [(.int .i64 0), (.int .i64 0), (.slice none 0 0), (.slice none 0 0), (.slice none 0 0)] 5 8 tZr25_LfD fun h8 => ?_ <;> refine s_sta 8 tAgg25_LdS ?_ <;> refine xL 9 q_assign ?_ <;> refine aL_end (nav ?_) <;> try dsimp only)
 (refine aC_region ?_ <;> (refine yL 20 (q_ldao 4 tAgg25_LdS) fun v20 hv20 => ?_; cases hv20) <;> (refine cP 21 (cA Tryd.call19 (hb)) fun va21 vb21 hva21 hvb21 => ?_; cases hvb21) <;> refine xL 19 q_move ?_ <;> refine xL 22 q_extract ?_ <;> refine xL 23 q_extract ?_ <;> refine s_alloc [(.int .i64 0), (.int .i64 0), (.slice none 0 0), (.slice none 0 0), (.slice none 0 0)] 5 10 tZr25_LfD fun h10 => ?_ <;> refine s_sta 10 tAgg25_LdS ?_ <;> refine xL 11 q_assign ?_ <;> refine aL_end (nav ?_) <;> try dsimp only)
 (refine aC_region ?_ <;> refine xL 24 q_move ?_ <;> refine xL 25 q_neq ?_ <;> refine xL 26 q_move ?_ <;> refine kL 27 ?_ <;> refine kL 28 ?_ <;> refine xL 29 q_pick ?_ <;> refine aL_end (nav ?_) <;> try dsimp only) <;> (
  (first | refine cCd ?_ ?_ | refine cC ?_ ?_) <;> intro hb29
  · refine nav ?_
    (refine aC_region ?_ <;> refine xL 30 (q_build0 stPairs rfl) ?_ <;> refine s_sta 6 tAgg69_LfP ?_ <;> refine xL 7 q_assign ?_ <;> refine aL_end (nav ?_) <;> try dsimp only)
    exact ret_cs (k := 5) 6 (by kernel_rfl) (Tryd.results37) rfl rfl rfl (Nat.le_of_ble_eq_true rfl) (by decide) rfl rfl
  · first | omega | exact absurd (by decide) hb29 | exact Bool.noConfusion hb29)
theorem aBoth_ee (a b : Aut) (op : Int)  (ha : AF Tryd.prog 19 [pAut a] (· = .tup [rawZ, pInt 13])) (hb : AF Tryd.prog 19 [pAut b] (· = .tup [rawZ, pInt 13])) : AF Tryd.prog 37 [pAut a, pAut b, pInt op] (· = .tup [pPZ, pInt 13]) := by
 refine AF.of_body 42 Tryd.func37 rfl Tryd.ntmps37 (Nat.le_of_ble_eq_true rfl) ?_
 intro w0 M0 vs hl hv
 obtain ⟨v0, v1, v2, rfl⟩ := len3 hl
 obtain rfl := hv 2 _ _ rfl rfl
 clear hl hv
 refine nav ?_
 (refine aC_region ?_ <;> refine s_boxa 3 5 fun h3 => ?_ <;> refine s_boxa 4 5 fun h4 => ?_ <;> refine s_alloc [(.int .i64 0), (.slice none 0 0), (.slice none 0 0), (.slice none 0 0), (.slice none 0 0)] 5 6 tZr69_LfP fun h6 => ?_ <;> refine xL 7 q_assign ?_ <;> refine aL_end (nav ?_) <;> try dsimp only)
 (refine aC_region ?_ <;> (refine yL 15 (q_ldao 3 tAgg25_LdS) fun v15 hv15 => ?_; cases hv15) <;> (refine cP 16 (cA Tryd.call19 (ha)) fun va16 vb16 hva16 hvb16 => ?_; cases hvb16) <;> refine xL 14 q_move ?_ <;> refine xL 17 q_extract ?_ <;> refine xL 18 q_extract ?_ <;> refine s_alloc [(.int .i64 0), (.int .i64 0), (.slice none 0 0), (.slice none 0 0), (.slice none 0 0)] 5 8 tZr25_LfD fun h8 => ?_ <;> refine s_sta 8 tAgg25_LdS ?_ <;> refine xL 9 q_assign ?_ <;> refine aL_end (nav ?_) <;> try dsimp only)
 (refine aC_region ?_ <;> (refine yL 20 (q_ldao 4 tAgg25_LdS) fun v20 hv20 => ?_; cases hv20) <;> (refine cP 21 (cA Tryd.call19 (hb)) fun va21 vb21 hva21 hvb21 => ?_; cases hvb21) <;> refine xL 19 q_move ?_ <;> refine xL 22 q_extract ?_ <;> refine xL 23 q_extract ?_ <;> refine s_alloc [(.int .i64 0), (.int .i64 0), (.slice none 0 0), (.slice none 0 0), (.slice none 0 0)] 5 10 tZr25_LfD fun h10 => ?_ <;> refine s_sta 10 tAgg25_LdS ?_ <;> refine xL 11 q_assign ?_ <;> refine aL_end (nav ?_) <;> try dsimp only)
 (refine aC_region ?_ <;> refine xL 24 q_move ?_ <;> refine xL 25 q_neq ?_ <;> refine xL 26 q_move ?_ <;> refine kL 27 ?_ <;> refine kL 28 ?_ <;> refine xL 29 q_pick ?_ <;> refine aL_end (nav ?_) <;> try dsimp only) <;> (
  (first | refine cCd ?_ ?_ | refine cC ?_ ?_) <;> intro hb29
  · refine nav ?_
    (refine aC_region ?_ <;> refine xL 30 (q_build0 stPairs rfl) ?_ <;> refine s_sta 6 tAgg69_LfP ?_ <;> refine xL 7 q_assign ?_ <;> refine aL_end (nav ?_) <;> try dsimp only)
    exact ret_cs (k := 5) 6 (by kernel_rfl) (Tryd.results37) rfl rfl rfl (Nat.le_of_ble_eq_true rfl) (by decide) rfl rfl
  · first | omega | exact absurd (by decide) hb29 | exact Bool.noConfusion hb29)
theorem aBoth_yes (a b A B : Aut) (op : Int) (q : List PrS × List (List Nat)) (ha : AF Tryd.prog 19 [pAut a] (· = .tup [pAut A, pInt 0])) (hb : AF Tryd.prog 19 [pAut b] (· = .tup [pAut B, pInt 0])) (hp : AF Tryd.prog 51 [pAut A, pAut B, pInt op] (· = .tup [pPairs A B op q, pBool true])) : AF Tryd.prog 37 [pAut a, pAut b, pInt op] (· = .tup [pPairs A B op q, pInt 0]) := by
 refine AF.of_body 42 Tryd.func37 rfl Tryd.ntmps37 (Nat.le_of_ble_eq_true rfl) ?_
 intro w0 M0 vs hl hv
 obtain ⟨v0, v1, v2, rfl⟩ := len3 hl
 obtain rfl := hv 2 _ _ rfl rfl
 clear hl hv
 refine nav ?_
 (refine aC_region ?_ <;> refine s_boxa 3 5 fun h3 => ?_ <;> refine s_boxa 4 5 fun h4 => ?_ <;> refine s_alloc [(.int .i64 0), (.slice none 0 0), (.slice none 0 0), (.slice none 0 0), (.slice none 0 0)] 5 6 tZr69_LfP fun h6 => ?_ <;> refine xL 7 q_assign ?_ <;> refine aL_end (nav ?_) <;> try dsimp only)
 (refine aC_region ?_ <;> (refine yL 15 (q_ldao 3 tAgg25_LdS) fun v15 hv15 => ?_; cases hv15) <;> (refine cP 16 (cA Tryd.call19 (ha)) fun va16 vb16 hva16 hvb16 => ?_; cases hvb16) <;> refine xL 14 q_move ?_ <;> refine xL 17 q_extract ?_ <;> refine xL 18 q_extract ?_ <;> refine s_alloc [(.int .i64 0), (.int .i64 0), (.slice none 0 0), (.slice none 0 0), (.slice none 0 0)] 5 8 tZr25_LfD fun h8 => ?_ <;> refine s_sta 8 tAgg25_LdS ?_ <;> refine xL 9 q_assign ?_ <;> refine aL_end (nav ?_) <;> try dsimp only)
 (refine aC_region ?_ <;> (refine yL 20 (q_ldao 4 tAgg25_LdS) fun v20 hv20 => ?_; cases hv20) <;> (refine cP 21 (cA Tryd.call19 (hb)) fun va21 vb21 hva21 hvb21 => ?_; cases hvb21) <;> refine xL 19 q_move ?_ <;> refine xL 22 q_extract ?_ <;> refine xL 23 q_extract ?_ <;> refine s_alloc [(.int .i64 0), (.int .i64 0), (.slice none 0 0), (.slice none 0 0), (.slice none 0 0)] 5 10 tZr25_LfD fun h10 => ?_ <;> refine s_sta 10 tAgg25_LdS ?_ <;> refine xL 11 q_assign ?_ <;> refine aL_end (nav ?_) <;> try dsimp only)
 (refine aC_region ?_ <;> refine xL 24 q_move ?_ <;> refine xL 25 q_neq ?_ <;> refine xL 26 q_move ?_ <;> refine xL 27 q_move ?_ <;> refine xL 28 q_neq ?_ <;> refine xL 29 q_pick ?_ <;> refine aL_end (nav ?_) <;> try dsimp only) <;> (
  (first | refine cCd ?_ ?_ | refine cC ?_ ?_) <;> intro hb29
  · first | omega | exact absurd rfl hb29 | exact Bool.noConfusion hb29
  · refine nav ?_
    (refine aC_region ?_ <;> (refine yL 32 (q_ldao 8 tAgg25_LdS) fun v32 hv32 => ?_; cases hv32) <;> (refine yL 33 (q_ldao 10 tAgg25_LdS) fun v33 hv33 => ?_; cases hv33) <;> refine xL 34 q_move ?_ <;> (refine cP 35 (cA Tryd.call51 (hp)) fun va35 vb35 hva35 hvb35 => ?_; cases hvb35) <;> refine xL 31 q_move ?_ <;> refine xL 36 q_extract ?_ <;> refine xL 37 q_extract ?_ <;> refine s_alloc [(.int .i64 0), (.slice none 0 0), (.slice none 0 0), (.slice none 0 0), (.slice none 0 0)] 5 12 tZr69_LfP fun h12 => ?_ <;> refine s_sta 12 tAgg69_LfP ?_ <;> refine xL 13 q_assign ?_ <;> refine aL_end (nav ?_) <;> try dsimp only)
    (refine aC_region ?_ <;> refine xL 38 q_move ?_ <;> refine xL 39 q_not ?_ <;> refine aL_end (nav ?_) <;> try dsimp only)
    (first | refine cCd ?_ ?_ | refine cC ?_ ?_) <;> intro hb39
    · first
      | exact Bool.noConfusion hb39
      | skip
    · first
      | exact Bool.noConfusion hb39
      | (
       refine nav ?_
       (refine aC_region ?_ <;> (refine yL 41 (q_ldao 12 tAgg69_LfP) fun v41 hv41 => ?_; cases hv41) <;> refine s_sta 6 tAgg69_LfP ?_ <;> refine xL 7 q_assign ?_ <;> refine aL_end (nav ?_) <;> try dsimp only)
       exact ret_cs (k := 5) 6 (by kernel_rfl) (Tryd.results37) rfl rfl rfl (Nat.le_of_ble_eq_true rfl) (by decide) rfl rfl))
abbrev V5 := { u : Value × Value × Value × Value × Value // En.one (PV.val u.1) = true ∧ En.one (PV.val u.2.1) = true ∧ En.one (PV.val u.2.2.1) = true ∧ En.one (PV.val u.2.2.2.1) = true ∧ En.one (PV.val u.2.2.2.2) = true }
theorem aBoth_no (a b A B : Aut) (op : Int) (ha : AF Tryd.prog 19 [pAut a] (· = .tup [pAut A, pInt 0])) (hb : AF Tryd.prog 19 [pAut b] (· = .tup [pAut B, pInt 0])) (hp : AF Tryd.prog 51 [pAut A, pAut B, pInt op] (fun p => ∃ i : V5, p = .tup [.agg [.val i.1.1, .val i.1.2.1, .val i.1.2.2.1, .val i.1.2.2.2.1, .val i.1.2.2.2.2], pBool false])) : AF Tryd.prog 37 [pAut a, pAut b, pInt op] (· = .tup [pPZ, pInt 13]) := by
 refine AF.of_body 42 Tryd.func37 rfl Tryd.ntmps37 (Nat.le_of_ble_eq_true rfl) ?_
 intro w0 M0 vs hl hv
 obtain ⟨v0, v1, v2, rfl⟩ := len3 hl
 obtain rfl := hv 2 _ _ rfl rfl
 clear hl hv
 refine nav ?_
 (refine aC_region ?_ <;> refine s_boxa 3 5 fun h3 => ?_ <;> refine s_boxa 4 5 fun h4 => ?_ <;> refine s_alloc [(.int .i64 0), (.slice none 0 0), (.slice none 0 0), (.slice none 0 0), (.slice none 0 0)] 5 6 tZr69_LfP fun h6 => ?_ <;> refine xL 7 q_assign ?_ <;> refine aL_end (nav ?_) <;> try dsimp only)
 (refine aC_region ?_ <;> (refine yL 15 (q_ldao 3 tAgg25_LdS) fun v15 hv15 => ?_; cases hv15) <;> (refine cP 16 (cA Tryd.call19 (ha)) fun va16 vb16 hva16 hvb16 => ?_; cases hvb16) <;> refine xL 14 q_move ?_ <;> refine xL 17 q_extract ?_ <;> refine xL 18 q_extract ?_ <;> refine s_alloc [(.int .i64 0), (.int .i64 0), (.slice none 0 0), (.slice none 0 0), (.slice none 0 0)] 5 8 tZr25_LfD fun h8 => ?_ <;> refine s_sta 8 tAgg25_LdS ?_ <;> refine xL 9 q_assign ?_ <;> refine aL_end (nav ?_) <;> try dsimp only)
 (refine aC_region ?_ <;> (refine yL 20 (q_ldao 4 tAgg25_LdS) fun v20 hv20 => ?_; cases hv20) <;> (refine cP 21 (cA Tryd.call19 (hb)) fun va21 vb21 hva21 hvb21 => ?_; cases hvb21) <;> refine xL 19 q_move ?_ <;> refine xL 22 q_extract ?_ <;> refine xL 23 q_extract ?_ <;> refine s_alloc [(.int .i64 0), (.int .i64 0), (.slice none 0 0), (.slice none 0 0), (.slice none 0 0)] 5 10 tZr25_LfD fun h10 => ?_ <;> refine s_sta 10 tAgg25_LdS ?_ <;> refine xL 11 q_assign ?_ <;> refine aL_end (nav ?_) <;> try dsimp only)
 (refine aC_region ?_ <;> refine xL 24 q_move ?_ <;> refine xL 25 q_neq ?_ <;> refine xL 26 q_move ?_ <;> refine xL 27 q_move ?_ <;> refine xL 28 q_neq ?_ <;> refine xL 29 q_pick ?_ <;> refine aL_end (nav ?_) <;> try dsimp only) <;> (
  (first | refine cCd ?_ ?_ | refine cC ?_ ?_) <;> intro hb29
  · first | omega | exact absurd rfl hb29 | exact Bool.noConfusion hb29
  · refine nav ?_
    (refine aC_region ?_ <;> (refine yL 32 (q_ldao 8 tAgg25_LdS) fun v32 hv32 => ?_; cases hv32) <;> (refine yL 33 (q_ldao 10 tAgg25_LdS) fun v33 hv33 => ?_; cases hv33) <;> refine xL 34 q_move ?_ <;> (refine cPx 35 (cA Tryd.call51 hp) (fun i35 v1 v2 hv1 hv2 => ?_) (fun _ => rfl); cases hv2; obtain ⟨⟨u0, u1, u2, u3, u4⟩, n0, n1, n2, n3, n4⟩ := i35; dsimp only at n0 n1 n2 n3 n4) <;> refine xL 31 q_move ?_ <;> refine xL 36 q_extract ?_ <;> refine xL 37 q_extract ?_ <;> refine s_alloc [(.int .i64 0), (.slice none 0 0), (.slice none 0 0), (.slice none 0 0), (.slice none 0 0)] 5 12 tZr69_LfP fun h12 => ?_ <;> refine s_sta 12 tAgg69_LfP ?_ <;> refine xL 13 q_assign ?_ <;> refine aL_end (nav ?_) <;> try dsimp only)
    (refine aC_region ?_ <;> refine xL 38 q_move ?_ <;> refine xL 39 q_not ?_ <;> refine aL_end (nav ?_) <;> try dsimp only)
    (first | refine cCd ?_ ?_ | refine cC ?_ ?_) <;> intro hb39
    · first
      | exact Bool.noConfusion hb39
      | (
       refine nav ?_
       (refine aC_region ?_ <;> refine xL 40 (q_build0 stPairs rfl) ?_ <;> refine s_sta 6 tAgg69_LfP ?_ <;> refine xL 7 q_assign ?_ <;> refine aL_end (nav ?_) <;> try dsimp only)
       exact ret_cs (k := 5) 6 (by kernel_rfl) (Tryd.results37) rfl rfl rfl (Nat.le_of_ble_eq_true rfl) (by decide) rfl rfl)
    · first
      | exact Bool.noConfusion hb39
      | skip)
theorem lim_err {x : Option Aut} {e : Int} (h : lim x = .error e) : e = 13 := by
 cases x with
 | some a => cases h
 | none => cases h; rfl
theorem redX_err {a : Aut} {e : Int} (h : redX a = .error e) : e = 13 := by
 unfold redX at h
 split at h
 · exact lim_err h
 · cases h; rfl
theorem aBoth_e (a b : Aut) (op : Int) (hf : fitX a b = 0) : AF Tryd.prog 37 [pAut a, pAut b, pInt op] (· = resB a b op) := by
 obtain ⟨h1, h2, h3⟩ := fit_zero hf
 have ha := aReduced_x a (aok_of h1)
 have hb := aReduced_x b (aok_of h2)
 unfold resB bothX
 cases ea : redX a with
 | error e =>
   obtain rfl := redX_err ea
   rw [ea] at ha
   cases eb : redX b with
   | error f =>
     obtain rfl := redX_err eb
     rw [eb] at hb
     exact aBoth_ee a b op ha hb
   | ok B => rw [eb] at hb; exact aBoth_eo a b op ha hb
 | ok A =>
   rw [ea] at ha
   cases eb : redX b with
   | error f =>
     obtain rfl := redX_err eb
     rw [eb] at hb
     exact aBoth_oe a b op ha hb
   | ok B =>
     rw [eb] at hb
     obtain ⟨dA, sA⟩ := redX_det (aok_of h1) ea
     obtain ⟨dB, sB⟩ := redX_det (aok_of h2) eb
     have hp := aProduct_e A B op dA dB (by rw [sA, sB, h3])
     dsimp only
     cases eq : prodQ A B with
     | some q => exact aBoth_yes a b A B op q ha hb (hp.mono fun p hr => by
        rcases hr with ⟨q', h4, h5⟩ | ⟨h4, _⟩
        · rw [eq] at h4; cases h4; exact h5
        · rw [eq] at h4; cases h4)
     | none => exact aBoth_no a b A B op ha hb (hp.mono fun p hr => by
        rcases hr with ⟨q', h4, h5⟩ | ⟨_, u0, u1, u2, u3, u4, n0, n1, n2, n3, n4, h5⟩
        · rw [eq] at h4; cases h4
        · exact ⟨⟨(u0, u1, u2, u3, u4), n0, n1, n2, n3, n4⟩, h5⟩)
theorem aCompare_bad (a b : Aut) (op e : Int) (he : ¬ e = 0) (hf : AF Tryd.prog 36 [pAut a, pAut b] (· = pInt e)) : AF Tryd.prog 20 [pAut a, pAut b, pInt op] (· = .tup [pBool false, pInts [], pInt e]) := by
 refine AF.of_body 38 Tryd.func20 rfl Tryd.ntmps20 (Nat.le_of_ble_eq_true rfl) ?_
 intro w0 M0 vs hl hv
 obtain ⟨v0, v1, v2, rfl⟩ := len3 hl
 obtain rfl := hv 2 _ _ rfl rfl
 clear hl hv
 refine nav ?_
 (refine aC_region ?_ <;> refine s_boxa 3 5 fun h3 => ?_ <;> refine s_boxa 4 5 fun h4 => ?_ <;> refine xL 6 q_assign ?_ <;> refine xL 7 q_assign ?_ <;> refine xL 8 q_assign ?_ <;> refine aL_end (nav ?_) <;> try dsimp only)
 (refine aC_region ?_ <;> (refine yL 14 (q_ldao 3 tAgg25_LdS) fun v14 hv14 => ?_; cases hv14) <;> (refine yL 15 (q_ldao 4 tAgg25_LdS) fun v15 hv15 => ?_; cases hv15) <;> (refine cS 16 (cA Tryd.call36 (hf)) fun v16 hv16 => ?_; cases hv16) <;> refine xL 9 q_assign ?_ <;> refine aL_end (nav ?_) <;> try dsimp only)
 (refine aC_region ?_ <;> refine xL 17 q_move ?_ <;> refine xL 18 q_neq ?_ <;> refine aL_end (nav ?_) <;> try dsimp only)
 (first | refine cCd ?_ ?_ | refine cC ?_ ?_) <;> intro hb18
 · refine nav ?_
   (refine aC_region ?_ <;> refine xL 19 q_move ?_ <;> refine xL 6 q_assign ?_ <;> refine xL 7 q_assign ?_ <;> refine xL 8 q_assign ?_ <;> refine aL_end (nav ?_) <;> try dsimp only)
   refine aR_ent (nilSlD (t := 7) rfl) fun _ => ?_
   exact ret_sss (Tryd.results20) rfl rfl rfl rfl
 · exact absurd (by simpa using hb18) he
theorem aCompare_err (a b : Aut) (op e : Int) (he : ¬ e = 0) (hf : AF Tryd.prog 36 [pAut a, pAut b] (· = pInt 0)) (hb : AF Tryd.prog 37 [pAut a, pAut b, pInt op] (· = .tup [pPZ, pInt e])) : AF Tryd.prog 20 [pAut a, pAut b, pInt op] (· = .tup [pBool false, pInts [], pInt e]) := by
 refine AF.of_body 38 Tryd.func20 rfl Tryd.ntmps20 (Nat.le_of_ble_eq_true rfl) ?_
 intro w0 M0 vs hl hv
 obtain ⟨v0, v1, v2, rfl⟩ := len3 hl
 obtain rfl := hv 2 _ _ rfl rfl
 clear hl hv
 refine nav ?_
 (refine aC_region ?_ <;> refine s_boxa 3 5 fun h3 => ?_ <;> refine s_boxa 4 5 fun h4 => ?_ <;> refine xL 6 q_assign ?_ <;> refine xL 7 q_assign ?_ <;> refine xL 8 q_assign ?_ <;> refine aL_end (nav ?_) <;> try dsimp only)
 (refine aC_region ?_ <;> (refine yL 14 (q_ldao 3 tAgg25_LdS) fun v14 hv14 => ?_; cases hv14) <;> (refine yL 15 (q_ldao 4 tAgg25_LdS) fun v15 hv15 => ?_; cases hv15) <;> (refine cS 16 (cA Tryd.call36 (hf)) fun v16 hv16 => ?_; cases hv16) <;> refine xL 9 q_assign ?_ <;> refine aL_end (nav ?_) <;> try dsimp only)
 (refine aC_region ?_ <;> refine xL 17 q_move ?_ <;> refine xL 18 q_neq ?_ <;> refine aL_end (nav ?_) <;> try dsimp only)
 (first | refine cCd ?_ ?_ | refine cC ?_ ?_) <;> intro hb18
 · first | omega | exact absurd rfl hb18 | exact Bool.noConfusion hb18
 · refine nav ?_
   (refine aC_region ?_ <;> (refine yL 21 (q_ldao 3 tAgg25_LdS) fun v21 hv21 => ?_; cases hv21) <;> (refine yL 22 (q_ldao 4 tAgg25_LdS) fun v22 hv22 => ?_; cases hv22) <;> refine xL 23 q_move ?_ <;> (refine cP 24 (cA Tryd.call37 (hb)) fun va24 vb24 hva24 hvb24 => ?_; cases hvb24) <;> refine xL 20 q_move ?_ <;> refine xL 25 q_extract ?_ <;> refine xL 26 q_extract ?_ <;> refine s_alloc [(.int .i64 0), (.slice none 0 0), (.slice none 0 0), (.slice none 0 0), (.slice none 0 0)] 5 10 tZr69_LfP fun h10 => ?_ <;> refine s_sta 10 tAgg69_LfP ?_ <;> refine xL 11 q_assign ?_ <;> refine aL_end (nav ?_) <;> try dsimp only)
   (refine aC_region ?_ <;> refine xL 27 q_move ?_ <;> refine xL 28 q_neq ?_ <;> refine aL_end (nav ?_) <;> try dsimp only)
   (first | refine cCd ?_ ?_ | refine cC ?_ ?_) <;> intro hb28
   · refine nav ?_
     (refine aC_region ?_ <;> refine xL 29 q_move ?_ <;> refine xL 6 q_assign ?_ <;> refine xL 7 q_assign ?_ <;> refine xL 8 q_assign ?_ <;> refine aL_end (nav ?_) <;> try dsimp only)
     refine aR_ent (nilSlD (t := 7) rfl) fun _ => ?_
     exact ret_sss (Tryd.results20) rfl rfl rfl rfl
   · exact absurd (by simpa using hb28) he
theorem aCompare_ok (a b A B : Aut) (op : Int) (q : List PrS × List (List Nat)) (x : List Int) (t : Bool) (hf : AF Tryd.prog 36 [pAut a, pAut b] (· = pInt 0)) (hb : AF Tryd.prog 37 [pAut a, pAut b, pInt op] (· = .tup [pPairs A B op q, pInt 0])) (hg : AF Tryd.prog 38 [pPairs A B op q] (· = .tup [pInts x, pBool t])) : AF Tryd.prog 20 [pAut a, pAut b, pInt op] (· = .tup [pBool (!t), pInts x, pInt 0]) := by
 refine AF.of_body 38 Tryd.func20 rfl Tryd.ntmps20 (Nat.le_of_ble_eq_true rfl) ?_
 intro w0 M0 vs hl hv
 obtain ⟨v0, v1, v2, rfl⟩ := len3 hl
 obtain rfl := hv 2 _ _ rfl rfl
 clear hl hv
 refine nav ?_
 (refine aC_region ?_ <;> refine s_boxa 3 5 fun h3 => ?_ <;> refine s_boxa 4 5 fun h4 => ?_ <;> refine xL 6 q_assign ?_ <;> refine xL 7 q_assign ?_ <;> refine xL 8 q_assign ?_ <;> refine aL_end (nav ?_) <;> try dsimp only)
 (refine aC_region ?_ <;> (refine yL 14 (q_ldao 3 tAgg25_LdS) fun v14 hv14 => ?_; cases hv14) <;> (refine yL 15 (q_ldao 4 tAgg25_LdS) fun v15 hv15 => ?_; cases hv15) <;> (refine cS 16 (cA Tryd.call36 (hf)) fun v16 hv16 => ?_; cases hv16) <;> refine xL 9 q_assign ?_ <;> refine aL_end (nav ?_) <;> try dsimp only)
 (refine aC_region ?_ <;> refine xL 17 q_move ?_ <;> refine xL 18 q_neq ?_ <;> refine aL_end (nav ?_) <;> try dsimp only)
 (first | refine cCd ?_ ?_ | refine cC ?_ ?_) <;> intro hb18
 · first | omega | exact absurd rfl hb18 | exact Bool.noConfusion hb18
 · refine nav ?_
   (refine aC_region ?_ <;> (refine yL 21 (q_ldao 3 tAgg25_LdS) fun v21 hv21 => ?_; cases hv21) <;> (refine yL 22 (q_ldao 4 tAgg25_LdS) fun v22 hv22 => ?_; cases hv22) <;> refine xL 23 q_move ?_ <;> (refine cP 24 (cA Tryd.call37 (hb)) fun va24 vb24 hva24 hvb24 => ?_; cases hvb24) <;> refine xL 20 q_move ?_ <;> refine xL 25 q_extract ?_ <;> refine xL 26 q_extract ?_ <;> refine s_alloc [(.int .i64 0), (.slice none 0 0), (.slice none 0 0), (.slice none 0 0), (.slice none 0 0)] 5 10 tZr69_LfP fun h10 => ?_ <;> refine s_sta 10 tAgg69_LfP ?_ <;> refine xL 11 q_assign ?_ <;> refine aL_end (nav ?_) <;> try dsimp only)
   (refine aC_region ?_ <;> refine xL 27 q_move ?_ <;> refine xL 28 q_neq ?_ <;> refine aL_end (nav ?_) <;> try dsimp only)
   (first | refine cCd ?_ ?_ | refine cC ?_ ?_) <;> intro hb28
   · first | omega | exact absurd rfl hb28 | exact Bool.noConfusion hb28
   · refine nav ?_
     (refine aC_region ?_ <;> (refine yL 31 (q_ldao 10 tAgg69_LfP) fun v31 hv31 => ?_; cases hv31) <;> (refine cP 32 (cA Tryd.call38 (hg)) fun va32 vb32 hva32 hvb32 => ?_; cases hvb32) <;> refine xL 30 q_move ?_ <;> refine xL 33 q_extract ?_ <;> refine xL 34 q_extract ?_ <;> refine xL 12 q_assign ?_ <;> refine xL 13 q_assign ?_ <;> refine aL_end (nav ?_) <;> try dsimp only)
     (refine aC_region ?_ <;> refine xL 35 q_move ?_ <;> refine xL 36 q_not ?_ <;> refine xL 37 q_move ?_ <;> refine xL 6 q_assign ?_ <;> refine xL 7 q_assign ?_ <;> refine xL 8 q_assign ?_ <;> refine aL_end (nav ?_) <;> try dsimp only)
     exact ret_sss (Tryd.results20) rfl rfl rfl rfl
def resC (x : Bool × List Int × Int) : PV := .tup [pBool x.1, pInts x.2.1, pInt x.2.2]
theorem aCompare_e (a b : Aut) (op : Int) : AF Tryd.prog 20 [pAut a, pAut b, pInt op] (· = resC (cmpX a b op)) := by
 have hf := aFit_e a b
 unfold cmpX
 by_cases h0 : fitX a b = 0
 · rw [if_neg (fun h => h h0)]
   have hb := aBoth_e a b op h0
   rw [h0] at hf
   unfold resB at hb
   cases e : bothX a b with
   | error f =>
     rw [e] at hb
     refine aCompare_err a b op f (fun hf0 => ?_) hf hb
     unfold bothX at e
     split at e
     · split at e <;> cases e
       omega
     · cases e; omega
   | ok x =>
     obtain ⟨A, B, o, rows⟩ := x
     rw [e] at hb
     obtain ⟨h1, h2, h3⟩ := fit_zero h0
     unfold bothX at e
     split at e
     · rename_i A' B' ea eb
       split at e
       · rename_i q' eq
         cases e
         obtain ⟨dA, sA⟩ := redX_det (aok_of h1) ea
         obtain ⟨dB, sB⟩ := redX_det (aok_of h2) eb
         have hok := (prod_ok dA dB (by rw [sA, sB, h3]) eq).1
         have hg := aFirst_e A B op o rows eq hok.zero hok.cap
         have := aCompare_ok a b A B op (o, rows) _ _ hf hb hg
         rw [Bool.not_not] at this
         exact this
       · cases e
     · cases e
 · rw [if_pos h0]
   exact aCompare_bad a b op _ h0 hf
theorem aEquivalent_c (a b : Aut) (t : Bool) (l : List Int) (e : Int) (h : AF Tryd.prog 20 [pAut a, pAut b, pInt 4] (· = .tup [pBool t, pInts l, pInt e])) : AF Tryd.prog 7 [pAut a, pAut b] (· = .tup [pBool t, pInts l, pInt e]) := by
 refine AF.of_body 13 Tryd.func7 rfl Tryd.ntmps7 (Nat.le_of_ble_eq_true rfl) ?_
 intro w0 M0 vs hl hv
 obtain ⟨v0, v1, rfl⟩ := len2 hl
 clear hl hv
 refine nav ?_
 (refine aC_region ?_ <;> refine s_boxa 2 5 fun h2 => ?_ <;> refine s_boxa 3 5 fun h3 => ?_ <;> refine xL 4 q_assign ?_ <;> refine xL 5 q_assign ?_ <;> refine xL 6 q_assign ?_ <;> refine aL_end (nav ?_) <;> try dsimp only)
 (refine aC_region ?_ <;> (refine yL 7 (q_ldao 2 tAgg25_LdS) fun v7 hv7 => ?_; cases hv7) <;> (refine yL 8 (q_ldao 3 tAgg25_LdS) fun v8 hv8 => ?_; cases hv8) <;> (refine cPx3 9 (cA Tryd.call20 h) fun va9 vb9 vc9 hva9 hvb9 hvc9 => ?_; cases hva9; cases hvc9) <;> refine xL 10 q_extract ?_ <;> refine xL 11 q_extract ?_ <;> refine xL 12 q_extract ?_ <;> refine xL 4 q_assign ?_ <;> refine xL 5 q_assign ?_ <;> refine xL 6 q_assign ?_ <;> refine aL_end (nav ?_) <;> try dsimp only)
 exact ret_sss (Tryd.results7) rfl rfl rfl rfl
theorem aEquivalent_e (a b : Aut) : AF Tryd.prog 7 [pAut a, pAut b] (· = resC (cmpX a b 4)) := aEquivalent_c a b _ _ _ (aCompare_e a b 4)
theorem aIncluded_c (a b : Aut) (t : Bool) (l : List Int) (e : Int) (h : AF Tryd.prog 20 [pAut a, pAut b, pInt 3] (· = .tup [pBool t, pInts l, pInt e])) : AF Tryd.prog 9 [pAut a, pAut b] (· = .tup [pBool t, pInts l, pInt e]) := by
 refine AF.of_body 13 Tryd.func9 rfl Tryd.ntmps9 (Nat.le_of_ble_eq_true rfl) ?_
 intro w0 M0 vs hl hv
 obtain ⟨v0, v1, rfl⟩ := len2 hl
 clear hl hv
 refine nav ?_
 (refine aC_region ?_ <;> refine s_boxa 2 5 fun h2 => ?_ <;> refine s_boxa 3 5 fun h3 => ?_ <;> refine xL 4 q_assign ?_ <;> refine xL 5 q_assign ?_ <;> refine xL 6 q_assign ?_ <;> refine aL_end (nav ?_) <;> try dsimp only)
 (refine aC_region ?_ <;> (refine yL 7 (q_ldao 2 tAgg25_LdS) fun v7 hv7 => ?_; cases hv7) <;> (refine yL 8 (q_ldao 3 tAgg25_LdS) fun v8 hv8 => ?_; cases hv8) <;> (refine cPx3 9 (cA Tryd.call20 h) fun va9 vb9 vc9 hva9 hvb9 hvc9 => ?_; cases hva9; cases hvc9) <;> refine xL 10 q_extract ?_ <;> refine xL 11 q_extract ?_ <;> refine xL 12 q_extract ?_ <;> refine xL 4 q_assign ?_ <;> refine xL 5 q_assign ?_ <;> refine xL 6 q_assign ?_ <;> refine aL_end (nav ?_) <;> try dsimp only)
 exact ret_sss (Tryd.results9) rfl rfl rfl rfl
theorem aIncluded_e (a b : Aut) : AF Tryd.prog 9 [pAut a, pAut b] (· = resC (cmpX a b 3)) := aIncluded_c a b _ _ _ (aCompare_e a b 3)
theorem eq_end {α : Type} {a b : List α} (hl : a.length = b.length) (h : ∀ (j : Nat) (x y : α), a[j]? = some x → b[j]? = some y → x = y) : a = b := by
 refine List.ext_getElem? fun j => ?_
 by_cases hj : j < a.length
 · obtain ⟨x, hx⟩ := get_some hj
   obtain ⟨y, hy⟩ := get_some (show j < b.length by omega)
   rw [hx, hy, h j x y hx hy]
 · rw [List.getElem?_eq_none (by omega), List.getElem?_eq_none (by omega)]
theorem ne_at {α : Type} {a b : List α} {j : Nat} {x y : α} (hx : a[j]? = some x) (hy : b[j]? = some y) (h : x ≠ y) : a ≠ b := fun e => by
 subst e; rw [hx] at hy; exact h (Option.some.inj hy)
instance : DecidableEq Mv := fun a b => if h : eqM a b = true then .isTrue (eqM_iff.1 h) else .isFalse fun e => h (eqM_iff.2 e)
theorem eqM_dec (a b : Mv) : eqM a b = decide (a = b) := by
 by_cases h : a = b
 · rw [decide_eq_true h]; exact eqM_iff.2 h
 · rw [decide_eq_false h]
   cases e : eqM a b with
   | false => rfl
   | true => exact absurd (eqM_iff.1 e) h
theorem r07SameWord_e (a b : List Int) : AF Tryd.prog 21 [pInts a, pInts b] (· = pBool (decide (a = b))) := by
 refine AF.of_body 26 Tryd.func21 rfl Tryd.ntmps21 (Nat.le_of_ble_eq_true rfl) ?_
 intro w0 M0 vs hl hv
 obtain ⟨v0, v1, rfl⟩ := len2 hl
 clear hl hv
 refine aC_slen 0 rfl fun hlen => ?_
 refine aC_slen 1 rfl fun hlen2 => ?_
 refine nav ?_
 (refine aC_region ?_ <;> refine xL 4 q_assign ?_ <;> refine aL_end (nav ?_) <;> try dsimp only)
 (refine aC_region ?_ <;> refine xL 6 q_move ?_ <;> refine xL 7 (q_len tSl22_LbB) ?_ <;> refine xL 8 q_move ?_ <;> refine xL 9 (q_len tSl22_LbB) ?_ <;> refine xL 10 q_neq ?_ <;> refine aL_end (nav ?_) <;> try dsimp only)
 (first | refine cCd ?_ ?_ | refine cC ?_ ?_) <;> intro hb10
 · first
   | exact Bool.noConfusion hb10
   | (
    refine nav ?_
    (refine aC_region ?_ <;> refine xL 4 q_assign ?_ <;> refine aL_end (nav ?_) <;> try dsimp only)
    refine ret_shr (Tryd.results21) rfl ?_
    rw [decide_eq_false (fun e => by subst e; exact hb10 rfl)])
 · first
   | exact Bool.noConfusion hb10
   | (
    have hll : a.length = b.length := by omega
    refine nav ?_
    (refine aC_region ?_ <;> refine xL 5 q_assign ?_ <;> refine aL_end (nav ?_) <;> try dsimp only)
    refine aC_loop (ι := { k : Nat // k ≤ a.length ∧ ∀ j x y, j < k → a[j]? = some x → b[j]? = some y → x = y }) (fun k => ⟨[(0, _, _), (1, _, _), (5, .int .i64 k.1, pInt k.1)], []⟩) (fun k => a.length - k.1) ⟨0, by omega, by omega⟩ (fun a w H => H.weaken ⟨rfl, rfl, rfl, trivial⟩ trivial) ?_
    rintro ⟨k, hk, hp⟩
    dsimp only
    refine nav ?_
    (refine aC_region ?_ <;> refine xL 11 q_move ?_ <;> refine xL 12 q_move ?_ <;> refine xL 13 (q_len tSl22_LbB) ?_ <;> refine xL 14 q_lss ?_ <;> refine aL_end (nav ?_) <;> try dsimp only)
    (first | refine cCd ?_ ?_ | refine cC ?_ ?_) <;> intro hb14
    · first
      | exact Bool.noConfusion hb14
      | (
       obtain ⟨x, hx⟩ := get_some (show k < a.length by omega)
       obtain ⟨y, hy⟩ := get_some (show k < b.length by omega)
       have e1 := map_at (f := pInt) hx
       have e2 := map_at (f := pInt) hy
       refine nav ?_
       (refine aC_draw (fun i => ([] : List Nat).elem i) [] (by kernel_rfl) ?_ <;> refine xD 0 17 rfl q_move ?_ <;> refine xD 1 18 rfl q_move ?_ <;> refine xD 2 19 rfl (q_idxN tSl22_LbB) ?_ <;> (refine yD 3 20 rfl (q_ld tNa3_LbB) fun v20 hv20 => ?_; cases hv20) <;> refine xD 4 21 rfl q_move ?_ <;> refine xE 5 22 rfl q_move ?_ <;> refine xE 6 23 rfl (q_idxN tSl22_LbB) ?_ <;> (refine yE 7 24 rfl (q_ld tNa3_LbB) fun v24 hv24 => ?_; cases hv24) <;> refine xE 8 25 rfl q_neq ?_ <;> refine aD_end (by kernel_rfl) (nav ?_) <;> try dsimp only)
       (first | refine cCd ?_ ?_ | refine cC ?_ ?_) <;> intro hb25
       · first
         | exact Bool.noConfusion hb25
         | (
          refine nav ?_
          (refine aC_region ?_ <;> refine xL 4 q_assign ?_ <;> refine aL_end (nav ?_) <;> try dsimp only)
          refine ret_shr (Tryd.results21) rfl ?_
          rw [decide_eq_false (ne_at hx hy (by simpa using hb25))])
       · first
         | exact Bool.noConfusion hb25
         | (
          refine nav ?_
          (refine aC_region ?_ <;> refine xL 15 q_move ?_ <;> refine xL 16 q_add ?_ <;> refine xL 5 q_assign ?_ <;> refine aL_end (nav ?_) <;> try dsimp only)
          refine aN_again (
           ⟨k + 1, lt_of_get hx, fun j x' y' hj hx' hy' => by
            by_cases e : j = k
            · subst e; rw [hx] at hx'; rw [hy] at hy'; cases hx'; cases hy'; simpa using hb25
            · exact hp j x' y' (by omega) hx' hy'⟩
           ) (by dsimp only; omega) ⟨rfl, rfl, rfl, trivial⟩ trivial))
    · first
      | exact Bool.noConfusion hb14
      | (
       refine nav ?_
       (refine aC_region ?_ <;> refine xL 4 q_assign ?_ <;> refine aL_end (nav ?_) <;> try dsimp only)
       refine ret_shr (Tryd.results21) rfl ?_
       rw [decide_eq_true (eq_end hll fun j x y hx hy => hp j x y (by have := lt_of_get hx; omega) hx hy)]))
theorem sEqualInt_e (a b : List Int) : AF Tryd.prog 10 [pInts a, pInts b] (· = pBool (decide (a = b))) := by
 refine AF.of_body 26 Tryd.func10 rfl Tryd.ntmps10 (Nat.le_of_ble_eq_true rfl) ?_
 intro w0 M0 vs hl hv
 obtain ⟨v0, v1, rfl⟩ := len2 hl
 clear hl hv
 refine aC_slen 0 rfl fun hlen => ?_
 refine aC_slen 1 rfl fun hlen2 => ?_
 refine nav ?_
 (refine aC_region ?_ <;> refine xL 4 q_assign ?_ <;> refine aL_end (nav ?_) <;> try dsimp only)
 (refine aC_region ?_ <;> refine xL 6 q_move ?_ <;> refine xL 7 (q_len tSl22_LbB) ?_ <;> refine xL 8 q_move ?_ <;> refine xL 9 (q_len tSl22_LbB) ?_ <;> refine xL 10 q_neq ?_ <;> refine aL_end (nav ?_) <;> try dsimp only)
 (first | refine cCd ?_ ?_ | refine cC ?_ ?_) <;> intro hb10
 · first
   | exact Bool.noConfusion hb10
   | (
    refine nav ?_
    (refine aC_region ?_ <;> refine xL 4 q_assign ?_ <;> refine aL_end (nav ?_) <;> try dsimp only)
    refine ret_shr (Tryd.results10) rfl ?_
    rw [decide_eq_false (fun e => by subst e; exact hb10 rfl)])
 · first
   | exact Bool.noConfusion hb10
   | (
    have hll : a.length = b.length := by omega
    refine nav ?_
    (refine aC_region ?_ <;> refine xL 11 q_move ?_ <;> refine xL 12 (q_len tSl22_LbB) ?_ <;> refine xL 13 q_move ?_ <;> refine aL_end (nav ?_) <;> try dsimp only)
    refine aC_loop (ι := { k : Nat // k ≤ a.length ∧ ∀ j x y, j < k → a[j]? = some x → b[j]? = some y → x = y }) (fun k => ⟨[(0, _, _), (1, _, _), (12, _, _), (13, .int .i64 k.1, pInt k.1)], []⟩) (fun k => a.length - k.1) ⟨0, by omega, by omega⟩ (fun a w H => H.weaken ⟨rfl, rfl, rfl, rfl, trivial⟩ trivial) ?_
    rintro ⟨k, hk, hp⟩
    dsimp only
    refine nav ?_
    (refine aC_region ?_ <;> refine xL 14 q_lss ?_ <;> refine aL_end (nav ?_) <;> try dsimp only)
    (first | refine cCd ?_ ?_ | refine cC ?_ ?_) <;> intro hb14
    · first
      | exact Bool.noConfusion hb14
      | (
       obtain ⟨x, hx⟩ := get_some (show k < a.length by omega)
       obtain ⟨y, hy⟩ := get_some (show k < b.length by omega)
       have e1 := map_at (f := pInt) hx
       have e2 := map_at (f := pInt) hy
       refine nav ?_
       (refine aC_region ?_ <;> refine xL 15 q_move ?_ <;> refine xL 5 q_assign ?_ <;> refine aL_end (nav ?_) <;> try dsimp only)
       (refine aC_draw (fun i => ([] : List Nat).elem i) [] (by kernel_rfl) ?_ <;> refine xD 0 16 rfl q_move ?_ <;> refine xD 1 17 rfl q_move ?_ <;> refine xD 2 18 rfl (q_idxN tSl22_LbB) ?_ <;> (refine yD 3 19 rfl (q_ld tNa3_LbB) fun v19 hv19 => ?_; cases hv19) <;> refine xD 4 20 rfl q_move ?_ <;> refine xE 5 21 rfl q_move ?_ <;> refine xE 6 22 rfl (q_idxN tSl22_LbB) ?_ <;> (refine yE 7 23 rfl (q_ld tNa3_LbB) fun v23 hv23 => ?_; cases hv23) <;> refine xE 8 24 rfl q_neq ?_ <;> refine aD_end (by kernel_rfl) (nav ?_) <;> try dsimp only)
       (first | refine cCd ?_ ?_ | refine cC ?_ ?_) <;> intro hb24
       · first
         | exact Bool.noConfusion hb24
         | (
          refine nav ?_
          (refine aC_region ?_ <;> refine xL 4 q_assign ?_ <;> refine aL_end (nav ?_) <;> try dsimp only)
          refine ret_shr (Tryd.results10) rfl ?_
          rw [decide_eq_false (ne_at hx hy (by simpa using hb24))])
       · first
         | exact Bool.noConfusion hb24
         | (
          refine nav ?_
          (refine aC_region ?_ <;> refine xL 25 q_add ?_ <;> refine xL 13 q_move ?_ <;> refine aL_end (nav ?_) <;> try dsimp only)
          refine aN_again (
           ⟨k + 1, lt_of_get hx, fun j x' y' hj hx' hy' => by
            by_cases e : j = k
            · subst e; rw [hx] at hx'; rw [hy] at hy'; cases hx'; cases hy'; simpa using hb24
            · exact hp j x' y' (by omega) hx' hy'⟩
           ) (by dsimp only; omega) ⟨rfl, rfl, rfl, rfl, trivial⟩ trivial))
    · first
      | exact Bool.noConfusion hb14
      | (
       refine nav ?_
       (refine aC_region ?_ <;> refine xL 4 q_assign ?_ <;> refine aL_end (nav ?_) <;> try dsimp only)
       refine ret_shr (Tryd.results10) rfl ?_
       rw [decide_eq_true (eq_end hll fun j x y hx hy => hp j x y (by have := lt_of_get hx; omega) hx hy)]))
theorem sEqualMv_e (a b : List Mv) : AF Tryd.prog 14 [pMvs a, pMvs b] (· = pBool (decide (a = b))) := by
 refine AF.of_body 26 Tryd.func14 rfl Tryd.ntmps14 (Nat.le_of_ble_eq_true rfl) ?_
 intro w0 M0 vs hl hv
 obtain ⟨v0, v1, rfl⟩ := len2 hl
 clear hl hv
 refine aC_slen 0 rfl fun hlen => ?_
 refine aC_slen 1 rfl fun hlen2 => ?_
 refine nav ?_
 (refine aC_region ?_ <;> refine xL 4 q_assign ?_ <;> refine aL_end (nav ?_) <;> try dsimp only)
 (refine aC_region ?_ <;> refine xL 6 q_move ?_ <;> refine xL 7 (q_len tSl23_LdI) ?_ <;> refine xL 8 q_move ?_ <;> refine xL 9 (q_len tSl23_LdI) ?_ <;> refine xL 10 q_neq ?_ <;> refine aL_end (nav ?_) <;> try dsimp only)
 (first | refine cCd ?_ ?_ | refine cC ?_ ?_) <;> intro hb10
 · first
   | exact Bool.noConfusion hb10
   | (
    refine nav ?_
    (refine aC_region ?_ <;> refine xL 4 q_assign ?_ <;> refine aL_end (nav ?_) <;> try dsimp only)
    refine ret_shr (Tryd.results14) rfl ?_
    rw [decide_eq_false (fun e => by subst e; exact hb10 rfl)])
 · first
   | exact Bool.noConfusion hb10
   | (
    have hll : a.length = b.length := by omega
    refine nav ?_
    (refine aC_region ?_ <;> refine xL 11 q_move ?_ <;> refine xL 12 (q_len tSl23_LdI) ?_ <;> refine xL 13 q_move ?_ <;> refine aL_end (nav ?_) <;> try dsimp only)
    refine aC_loop (ι := { k : Nat // k ≤ a.length ∧ ∀ j x y, j < k → a[j]? = some x → b[j]? = some y → x = y }) (fun k => ⟨[(0, _, _), (1, _, _), (12, _, _), (13, .int .i64 k.1, pInt k.1)], []⟩) (fun k => a.length - k.1) ⟨0, by omega, by omega⟩ (fun a w H => H.weaken ⟨rfl, rfl, rfl, rfl, trivial⟩ trivial) ?_
    rintro ⟨k, hk, hp⟩
    dsimp only
    refine nav ?_
    (refine aC_region ?_ <;> refine xL 14 q_lss ?_ <;> refine aL_end (nav ?_) <;> try dsimp only)
    (first | refine cCd ?_ ?_ | refine cC ?_ ?_) <;> intro hb14
    · first
      | exact Bool.noConfusion hb14
      | (
       obtain ⟨x, hx⟩ := get_some (show k < a.length by omega)
       obtain ⟨y, hy⟩ := get_some (show k < b.length by omega)
       have e1 := flat_drop cMv_len a k x hx
       have e2 := flat_fit cMv_len hx
       have e3 := flat_drop cMv_len b k y hy
       have e4 := flat_fit cMv_len hy
       refine nav ?_
       (refine aC_region ?_ <;> refine xL 15 q_move ?_ <;> refine xL 5 q_assign ?_ <;> refine aL_end (nav ?_) <;> try dsimp only)
       (refine aC_draw (fun i => ([] : List Nat).elem i) [] (by kernel_rfl) ?_ <;> refine xD 0 16 rfl q_move ?_ <;> refine xD 1 17 rfl q_move ?_ <;> refine xD 2 18 rfl (q_idxN tSl23_LdI) ?_ <;> (refine yD 3 19 rfl (q_lda tAgg40_LdI) fun v19 hv19 => ?_; cases hv19) <;> refine xD 4 20 rfl q_move ?_ <;> refine xE 5 21 rfl q_move ?_ <;> refine xE 6 22 rfl (q_idxN tSl23_LdI) ?_ <;> (refine yE 7 23 rfl (q_lda tAgg40_LdI) fun v23 hv23 => ?_; cases hv23) <;> refine xE 8 24 rfl ((q_neS (us := vMv x) (us' := vMv y) uMvS hMvS gMvS (eqMv_runG x y) rfl rfl)) ?_ <;> refine aD_end (by kernel_rfl) (nav ?_) <;> try dsimp only)
       (first | refine cCd ?_ ?_ | refine cC ?_ ?_) <;> intro hb24
       · first
         | exact Bool.noConfusion hb24
         | (
          refine nav ?_
          (refine aC_region ?_ <;> refine xL 4 q_assign ?_ <;> refine aL_end (nav ?_) <;> try dsimp only)
          refine ret_shr (Tryd.results14) rfl ?_
          rw [decide_eq_false (ne_at hx hy (by
           have h := hb24
           rw [eqM_dec] at h
           simpa using h))])
       · first
         | exact Bool.noConfusion hb24
         | (
          refine nav ?_
          (refine aC_region ?_ <;> refine xL 25 q_add ?_ <;> refine xL 13 q_move ?_ <;> refine aL_end (nav ?_) <;> try dsimp only)
          refine aN_again (
           ⟨k + 1, lt_of_get hx, fun j x' y' hj hx' hy' => by
            by_cases e : j = k
            · subst e; rw [hx] at hx'; rw [hy] at hy'; cases hx'; cases hy'
              have h := hb24
              rw [eqM_dec] at h
              simpa using h
            · exact hp j x' y' (by omega) hx' hy'⟩
           ) (by dsimp only; omega) ⟨rfl, rfl, rfl, rfl, trivial⟩ trivial))
    · first
      | exact Bool.noConfusion hb14
      | (
       refine nav ?_
       (refine aC_region ?_ <;> refine xL 4 q_assign ?_ <;> refine aL_end (nav ?_) <;> try dsimp only)
       refine ret_shr (Tryd.results14) rfl ?_
       rw [decide_eq_true (eq_end hll fun j x y hx hy => hp j x y (by have := lt_of_get hx; omega) hx hy)]))
theorem sEqualFuncInts_e (a b : List (List Int)) : AF Tryd.prog 15 [pIntss a, pIntss b, .fn 10 []] (· = pBool (decide (a = b))) := by
 refine AF.of_body 32 Tryd.func15 rfl Tryd.ntmps15 (Nat.le_of_ble_eq_true rfl) ?_
 intro w0 M0 vs hl hv
 obtain ⟨v0, v1, v2, rfl⟩ := len3 hl
 clear hl hv
 refine aC_slen 0 rfl fun hlen => ?_
 refine aC_slen 1 rfl fun hlen2 => ?_
 refine nav ?_
 (refine aC_region ?_ <;> refine xL 6 q_assign ?_ <;> refine aL_end (nav ?_) <;> try dsimp only)
 (refine aC_region ?_ <;> refine xL 10 q_move ?_ <;> refine xL 11 (q_len tSl36_LdS) ?_ <;> refine xL 12 q_move ?_ <;> refine xL 13 (q_len tSl36_LdS) ?_ <;> refine xL 14 q_neq ?_ <;> refine aL_end (nav ?_) <;> try dsimp only)
 (first | refine cCd ?_ ?_ | refine cC ?_ ?_) <;> intro hb14
 · first
   | exact Bool.noConfusion hb14
   | (
    refine nav ?_
    (refine aC_region ?_ <;> refine xL 6 q_assign ?_ <;> refine aL_end (nav ?_) <;> try dsimp only)
    refine ret_shr (Tryd.results15) rfl ?_
    rw [decide_eq_false (fun e => by subst e; exact hb14 rfl)])
 · first
   | exact Bool.noConfusion hb14
   | (
    have hll : a.length = b.length := by omega
    refine nav ?_
    (refine aC_region ?_ <;> refine xL 15 q_move ?_ <;> refine xL 16 (q_len tSl36_LdS) ?_ <;> refine xL 17 q_move ?_ <;> refine aL_end (nav ?_) <;> try dsimp only)
    refine aC_loop (ι := { k : Nat // k ≤ a.length ∧ ∀ j x y, j < k → a[j]? = some x → b[j]? = some y → x = y }) (fun k => ⟨[(0, _, _), (1, _, _), (2, _, _), (15, _, _), (16, _, _), (17, .int .i64 k.1, pInt k.1)], []⟩) (fun k => a.length - k.1) ⟨0, by omega, by omega⟩ (fun a w H => H.weaken ⟨rfl, rfl, rfl, rfl, rfl, rfl, trivial⟩ trivial) ?_
    rintro ⟨k, hk, hp⟩
    dsimp only
    refine nav ?_
    (refine aC_region ?_ <;> refine xL 18 q_lss ?_ <;> refine aL_end (nav ?_) <;> try dsimp only)
    (first | refine cCd ?_ ?_ | refine cC ?_ ?_) <;> intro hb18
    · first
      | exact Bool.noConfusion hb18
      | (
       obtain ⟨x, hx⟩ := get_some (show k < a.length by omega)
       obtain ⟨y, hy⟩ := get_some (show k < b.length by omega)
       have e1 := map_at (f := pInts) hx
       have e2 := map_at (f := pInts) hy
       refine nav ?_
       (refine aC_region ?_ <;> refine xL 19 q_move ?_ <;> refine xL 20 (q_idxN tSl36_LdS) ?_ <;> (refine yL 21 (q_ld tNa22_LdI) fun v21 hv21 => ?_; cases hv21) <;> refine xL 7 q_assign ?_ <;> refine xL 8 q_assign ?_ <;> refine aL_end (nav ?_) <;> try dsimp only)
       (refine aC_region ?_ <;> refine xL 22 q_move ?_ <;> refine xL 23 q_move ?_ <;> refine xL 24 (q_idxN tSl36_LdS) ?_ <;> (refine yL 25 (q_ld tNa22_LdI) fun v25 hv25 => ?_; cases hv25) <;> refine xL 9 q_assign ?_ <;> refine aL_end (nav ?_) <;> try dsimp only)
       (refine aC_region ?_ <;> refine xL 26 q_move ?_ <;> refine xL 27 q_move ?_ <;> refine xL 28 q_move ?_ <;> (refine cS 29 (callF (f := 10) (ps := []) rfl ⟨_, rfl⟩ (Tryd.call10) rfl (sEqualInt_e x y)) fun v29 hv29 => ?_; cases hv29) <;> refine xL 30 q_not ?_ <;> refine aL_end (nav ?_) <;> try dsimp only)
       (first | refine cCd ?_ ?_ | refine cC ?_ ?_) <;> intro hb30
       · first
         | exact Bool.noConfusion hb30
         | (
          refine nav ?_
          (refine aC_region ?_ <;> refine xL 6 q_assign ?_ <;> refine aL_end (nav ?_) <;> try dsimp only)
          refine ret_shr (Tryd.results15) rfl ?_
          rw [decide_eq_false (ne_at hx hy (by simpa using hb30))])
       · first
         | exact Bool.noConfusion hb30
         | (
          refine nav ?_
          (refine aC_region ?_ <;> refine xL 31 q_add ?_ <;> refine xL 17 q_move ?_ <;> refine aL_end (nav ?_) <;> try dsimp only)
          refine aN_again (
           ⟨k + 1, lt_of_get hx, fun j x' y' hj hx' hy' => by
            by_cases e : j = k
            · subst e; rw [hx] at hx'; rw [hy] at hy'; cases hx'; cases hy'; simpa using hb30
            · exact hp j x' y' (by omega) hx' hy'⟩
           ) (by dsimp only; omega) ⟨rfl, rfl, rfl, rfl, rfl, rfl, trivial⟩ trivial))
    · first
      | exact Bool.noConfusion hb18
      | (
       refine nav ?_
       (refine aC_region ?_ <;> refine xL 6 q_assign ?_ <;> refine aL_end (nav ?_) <;> try dsimp only)
       refine ret_shr (Tryd.results15) rfl ?_
       rw [decide_eq_true (eq_end hll fun j x y hx hy => hp j x y (by have := lt_of_get hx; omega) hx hy)]))
def insI (x : Int) : List Int → List Int
 | [] => [x]
 | y :: l => if x ≤ y then x :: y :: l else y :: insI x l
def srtI : List Int → List Int
 | [] => []
 | x :: l => insI x (srtI l)
theorem insI_perm (x : Int) : ∀ l, (insI x l).Perm (x :: l)
 | [] => .refl _
 | y :: l => by
   unfold insI
   split
   · exact .refl _
   · exact ((insI_perm x l).cons y).trans (.swap _ _ _)
theorem srtI_perm : ∀ l, (srtI l).Perm l
 | [] => .refl _
 | x :: l => (insI_perm x _).trans ((srtI_perm l).cons x)
theorem insI_pw (x : Int) : ∀ l : List Int, l.Pairwise (· ≤ ·) → (insI x l).Pairwise (· ≤ ·)
 | [], _ => by simp [insI]
 | y :: l, h => by
   have h' := List.pairwise_cons.1 h
   unfold insI
   split
   · rename_i hxy
     refine List.pairwise_cons.2 ⟨fun z hz => ?_, h⟩
     rcases List.mem_cons.1 hz with rfl | hz
     · exact hxy
     · exact Int.le_trans hxy (h'.1 z hz)
   · rename_i hxy
     refine List.pairwise_cons.2 ⟨fun z hz => ?_, insI_pw x l h'.2⟩
     rcases List.mem_cons.1 ((insI_perm x l).mem_iff.1 hz) with rfl | hz
     · omega
     · exact h'.1 z hz
theorem srtI_pw : ∀ l, (srtI l).Pairwise (· ≤ ·)
 | [] => .nil
 | x :: l => insI_pw x _ (srtI_pw l)
theorem sorted_ext : ∀ {l m : List Int}, l.Pairwise (· ≤ ·) → m.Pairwise (· ≤ ·) → l.Perm m → l = m
 | [], [], _, _, _ => rfl
 | [], y :: m, _, _, h => by have := h.length_eq; simp at this
 | x :: l, [], _, _, h => by have := h.length_eq; simp at this
 | x :: l, y :: m, hl, hm, h => by
   have hl' := List.pairwise_cons.1 hl
   have hm' := List.pairwise_cons.1 hm
   have h1 : x ≤ y := by
    rcases List.mem_cons.1 (h.mem_iff.2 (List.mem_cons_self ..)) with e | e
    · omega
    · exact hl'.1 y e
   have h2 : y ≤ x := by
    rcases List.mem_cons.1 (h.mem_iff.1 (List.mem_cons_self ..)) with e | e
    · omega
    · exact hm'.1 x e
   obtain rfl : x = y := by omega
   rw [sorted_ext hl'.2 hm'.2 ((List.perm_cons x).1 h)]
def closI (a : Aut) (l : List Int) : List Int := srtI (clAt a l a.n.toNat)
theorem closI_eq (a : Aut) (l : List Int) : closL a l = closI a l := by
 unfold closL closI
 have h1 : ((clAt a l a.n.toNat).mergeSort fun x y => decide (x ≤ y)).Pairwise (fun x y => decide (x ≤ y) = true) := List.pairwise_mergeSort (fun a b c h1 h2 => by simp only [decide_eq_true_eq] at *; omega) (fun a b => by simp only [Bool.or_eq_true, decide_eq_true_eq]; omega) _
 exact sorted_ext (h1.imp fun h => by simpa using h) (srtI_pw _) ((List.mergeSort_perm _ _).trans (srtI_perm _).symm)
def kidI (a : Aut) (far : List Int) (n : Int) (p : Pf) (c : Nat) : List Pf := if (nearL (closI a (leads a c p.2)) far (n - 1)).length = 0 then [] else [(p.1 ++ [(c : Int)], nearL (closI a (leads a c p.2)) far (n - 1))]
def lvI (a : Aut) (far : List Int) (n : Nat) : Nat → List Pf
 | 0 => [([], nearL (closI a a.start) far n)]
 | k + 1 => (lvI a far n k).flatMap fun p => (List.range a.syms.toNat).flatMap (kidI a far ((n : Int) - k) p)
theorem lvI_eq (a : Aut) (n : Nat) : ∀ k, lvP a n k = lvI a (farL a) n k
 | 0 => by rw [lvP, lvI, closI_eq]
 | k + 1 => by
   rw [lvP, lvI, lvI_eq a n k]
   have : ∀ p, kidsP a ((n : Int) - k) p = (List.range a.syms.toNat).flatMap (kidI a (farL a) ((n : Int) - k) p) := fun p => by
    unfold kidsP
    have : kidP a ((n : Int) - k) p = kidI a (farL a) ((n : Int) - k) p := by
     funext c
     unfold kidP kidI nextL
     rw [closI_eq]
    rw [this]
   exact flatMap_ext fun p _ => this p
def sumI (a : Aut) (far : List Int) (n k : Nat) : List (List Int) := (List.range k).flatMap fun i => outP a (lvI a far n i)
theorem sumI_eq (a : Aut) (n k : Nat) : sumP a n k = sumI a (farL a) n k := by
 unfold sumP sumI
 simp only [lvI_eq]
def bigI (a : Aut) (far : List Int) (n : Nat) : Bool := (List.range (n + 1)).any (fun k => decide (2000 < (lvI a far n (k + 1)).length)) || decide (2000 < (sumI a far n (n + 1)).length)
theorem bigI_eq (a : Aut) (n : Nat) : bigP a n ↔ bigI a (farL a) n = true := by
 unfold bigP bigI
 rw [sumI_eq]
 simp only [Bool.or_eq_true, List.any_eq_true, List.mem_range, decide_eq_true_eq, lvI_eq]
 constructor
 · rintro (⟨k, h1, h2⟩ | h)
   · exact .inl ⟨k, by omega, h2⟩
   · exact .inr h
 · rintro (⟨k, h1, h2⟩ | h)
   · exact .inl ⟨k, by omega, h2⟩
   · exact .inr h
def subI (a : Aut) : Srch (List Int) (List Int) := ⟨id, 2000, a.syms.toNat, fun _ l s => closI a (leads a (s : Nat) l)⟩
theorem subI_eq (a : Aut) : subW a = subI a := by
 unfold subW subI
 congr 1
 funext _ l s
 unfold nextL
 rw [closI_eq]
theorem subT_of {a : Aut} {q : List (List Int) × List (List Nat)} (i : Nat) (h : (subI a).upto (closI a a.start) i = some q) (hl : q.1.length ≤ i) (hi : i ≤ 2000) : subT a = some ⟨a.syms.toNat, q.2, q.1.map (accB a)⟩ := by
 unfold subT
 rw [subI_eq, closI_eq, Srch.all_some h hl hi]; rfl
theorem redX_of {a : Aut} {q : List (List Int) × List (List Nat)} {A : Aut} (i : Nat) (h : (subI a).upto (closI a a.start) i = some q) (hl : q.1.length ≤ i) (hi : i ≤ 2000) (hA : leastT ⟨a.syms.toNat, q.2, q.1.map (accB a)⟩ = some A) : redX a = .ok A := by
 unfold redX
 rw [subT_of i h hl hi]
 dsimp only
 rw [hA]; rfl
theorem bothX_of {a b A B : Aut} {q : List ((Nat × Nat) × (Int × Int)) × List (List Nat)} (i : Nat) (ha : redX a = .ok A) (hb : redX b = .ok B) (h : (prodW A B).upto ((0, 0), (-1, -1)) i = some q) (hl : q.1.length ≤ i) (hi : i ≤ 2000) : bothX a b = .ok (A, B, q) := by
 unfold bothX
 rw [ha, hb]
 dsimp only
 rw [show prodQ A B = some q from Srch.all_some h hl hi]
theorem cmpX_of {a b A B : Aut} {q : List ((Nat × Nat) × (Int × Int)) × List (List Nat)} {op : Int} (hf : fitX a b = 0) (h : bothX a b = .ok (A, B, q)) : cmpX a b op = ((cmpR A B op q).1, (cmpR A B op q).2, 0) := by
 unfold cmpX
 rw [if_neg (fun h => h hf), h]
def ex07 : Aut := ⟨2, 2, [0], [1], [⟨0, 0, 0⟩, ⟨0, 0, 1⟩, ⟨0, 1, 1⟩]⟩
def ex07M : Aut := ⟨2, 2, [0], [1], [⟨0, 0, 0⟩, ⟨0, 1, 1⟩, ⟨1, 0, 0⟩, ⟨1, 1, 1⟩]⟩
theorem ex07_ok : autOk ex07 = true := by kernel_rfl
theorem ex07_sub : (subI ex07).upto (closI ex07 ex07.start) 2 = some ([[0], [0, 1]], [[0, 1], [0, 1]]) := by kernel_rfl
theorem ex07_min : leastT ⟨2, [[0, 1], [0, 1]], [false, true]⟩ = some ex07M := by kernel_rfl
theorem ex07_red : redX ex07 = .ok ex07M := redX_of 2 ex07_sub (by decide) (by decide) ex07_min
theorem ex07_minX : minX ex07 = .ok ex07M := by unfold minX; rw [ex07_ok, if_pos rfl, ex07_red]
theorem ex07_subM : (subI ex07M).upto (closI ex07M ex07M.start) 2 = some ([[0], [1]], [[0, 1], [0, 1]]) := by kernel_rfl
theorem ex07_redM : redX ex07M = .ok ex07M := redX_of 2 ex07_subM (by decide) (by decide) ex07_min
theorem tSl43_LfT : SlT Tryd.prog 43 25 5 = true := by kernel_rfl
theorem aut_ext {a b : Aut} (h1 : a.n = b.n) (h2 : a.syms = b.syms) (h3 : a.start = b.start) (h4 : a.fin = b.fin) (h5 : a.moves = b.moves) : a = b := by
 cases a; cases b; simp_all
instance : DecidableEq Aut := fun a b => if h : a.n = b.n ∧ a.syms = b.syms ∧ a.start = b.start ∧ a.fin = b.fin ∧ a.moves = b.moves then .isTrue (aut_ext h.1 h.2.1 h.2.2.1 h.2.2.2.1 h.2.2.2.2) else .isFalse fun e => h (by subst e; exact ⟨rfl, rfl, rfl, rfl, rfl⟩)
set_option maxHeartbeats 1000000 in
theorem r07Same_e (a b : Aut) (hm : a.moves.length ≤ 1000000) (hm' : b.moves.length ≤ 1000000) : AF Tryd.prog 8 [pAut a, pAut b] (· = pBool (decide (a = b))) := by
 refine AF.of_body 61 Tryd.func8 rfl Tryd.ntmps8 (Nat.le_of_ble_eq_true rfl) ?_
 intro w0 M0 vs hl hv
 obtain ⟨v0, v1, rfl⟩ := len2 hl
 clear hl hv
 refine nav ?_
 (refine aC_region ?_ <;> refine s_boxa 2 5 fun h2 => ?_ <;> refine s_boxa 3 5 fun h3 => ?_ <;> refine xL 4 q_assign ?_ <;> refine aL_end (nav ?_) <;> try dsimp only)
 (refine aC_region ?_ <;> refine xL 6 (q_fldo 2 tFl25_0_LdI) ?_ <;> (refine yL 7 (q_ldo 2 tNa3_LbB) fun v7 hv7 => ?_; cases hv7) <;> refine xL 8 (q_fldo 3 tFl25_0_LdI) ?_ <;> (refine yL 9 (q_ldo 3 tNa3_LbB) fun v9 hv9 => ?_; cases hv9) <;> refine xL 10 q_neq ?_ <;> refine xL 11 q_move ?_ <;> (refine bLd 11 (fun hb11 => ?_) (fun hb11 => ?_) <;> (first | refine kL 12 ?_ | refine xL 12 (q_fldo 2 tFl25_1_LdI) ?_)) <;> (first | refine kL 13 ?_ | (refine yL 13 (q_ldo 2 tNa3_LbB) fun v13 hv13 => ?_; cases hv13)) <;> (first | refine kL 14 ?_ | refine xL 14 (q_fldo 3 tFl25_1_LdI) ?_) <;> (first | refine kL 15 ?_ | (refine yL 15 (q_ldo 3 tNa3_LbB) fun v15 hv15 => ?_; cases hv15)) <;> (first | refine kL 16 ?_ | refine xL 16 q_neq ?_) <;> refine xL 17 q_pick ?_ <;> refine xL 18 q_move ?_ <;> (first | refine kL 19 ?_ | (refine bLd 18 (fun hb18 => ?_) (fun hb18 => ?_) <;> (first | refine kL 19 ?_ | refine xL 19 (q_fldo 2 tFl25_2_LdI) ?_))) <;> (first | refine kL 20 ?_ | (refine yL 20 (q_ldo 2 tNa22_LdI) fun v20 hv20 => ?_; cases hv20)) <;> (first | refine kL 21 ?_ | refine xL 21 (q_fldo 3 tFl25_2_LdI) ?_) <;> (first | refine kL 22 ?_ | (refine yL 22 (q_ldo 3 tNa22_LdI) fun v22 hv22 => ?_; cases hv22)) <;> (first | refine kL 23 ?_ | (refine cS 23 (cA Tryd.call21 (r07SameWord_e a.start b.start)) fun v23 hv23 => ?_; cases hv23)) <;> (first | refine kL 24 ?_ | refine xL 24 q_not ?_) <;> refine xL 25 q_pick ?_ <;> refine xL 26 q_move ?_ <;> (first | refine kL 27 ?_ | (refine bL 26 (fun hb26 => ?_) (fun hb26 => ?_) <;> (first | refine kL 27 ?_ | refine xL 27 (q_fldo 2 tFl25_3_LdI) ?_))) <;> (first | refine kL 28 ?_ | (refine yL 28 (q_ldo 2 tNa22_LdI) fun v28 hv28 => ?_; cases hv28)) <;> (first | refine kL 29 ?_ | refine xL 29 (q_fldo 3 tFl25_3_LdI) ?_) <;> (first | refine kL 30 ?_ | (refine yL 30 (q_ldo 3 tNa22_LdI) fun v30 hv30 => ?_; cases hv30)) <;> (first | refine kL 31 ?_ | (refine cS 31 (cA Tryd.call21 (r07SameWord_e a.fin b.fin)) fun v31 hv31 => ?_; cases hv31)) <;> (first | refine kL 32 ?_ | refine xL 32 q_not ?_) <;> refine xL 33 q_pick ?_ <;> refine xL 34 q_move ?_ <;> (first | refine kL 35 ?_ | (refine bL 34 (fun hb34 => ?_) (fun hb34 => ?_) <;> (first | refine kL 35 ?_ | refine xL 35 (q_fldo 2 tFl25_4_LdI) ?_))) <;> (first | refine kL 36 ?_ | (refine yL 36 (q_ldo 2 tNa23_LdI) fun v36 hv36 => ?_; cases hv36)) <;> (first | refine kL 37 ?_ | refine xL 37 (q_len tSl23_LdI) ?_) <;> (first | refine kL 38 ?_ | refine xL 38 (q_fldo 3 tFl25_4_LdI) ?_) <;> (first | refine kL 39 ?_ | (refine yL 39 (q_ldo 3 tNa23_LdI) fun v39 hv39 => ?_; cases hv39)) <;> (first | refine kL 40 ?_ | refine xL 40 (q_len tSl23_LdI) ?_) <;> (first | refine kL 41 ?_ | refine xL 41 q_neq ?_) <;> refine xL 42 q_pick ?_ <;> refine aL_end (nav ?_) <;> try dsimp only) <;> (
  (first | refine cCd ?_ ?_ | refine cC ?_ ?_) <;> intro hb42
  · first
    | exact Bool.noConfusion hb42
    | (
     refine nav ?_
     (refine aC_region ?_ <;> refine xL 4 q_assign ?_ <;> refine aL_end (nav ?_) <;> try dsimp only)
     refine ret_shr (Tryd.results8) rfl ?_
     rw [decide_eq_false (fun e => by
      subst e
      first
       | exact absurd rfl hb42
       | (simp at hb34; done)
       | (simp at hb26; done)
       | exact absurd rfl hb18
       | exact absurd rfl hb11)])
  · first
    | exact Bool.noConfusion hb42
    | (
     have q3 : a.start = b.start := by simpa using hb26
     have q4 : a.fin = b.fin := by simpa using hb34
     have hll : a.moves.length = b.moves.length := by omega
     have q1 : a.n = b.n := by omega
     have q2 : a.syms = b.syms := by omega
     refine nav ?_
     (refine aC_region ?_ <;> refine xL 5 q_assign ?_ <;> refine aL_end (nav ?_) <;> try dsimp only)
     refine aC_loop (ι := { k : Nat // k ≤ a.moves.length ∧ ∀ j x y, j < k → a.moves[j]? = some x → b.moves[j]? = some y → x = y }) (fun k => ⟨[(2, _, _), (3, _, _), (5, .int .i64 k.1, pInt k.1)], [(2, _, _), (3, _, _)]⟩) (fun k => a.moves.length - k.1) ⟨0, Nat.zero_le _, by omega⟩ (fun a w H => H.weaken ⟨rfl, rfl, rfl, trivial⟩ ⟨rfl, rfl, trivial⟩) ?_
     rintro ⟨k, hk, hp⟩
     dsimp only
     refine nav ?_
     (refine aC_region ?_ <;> refine xL 43 q_move ?_ <;> refine xL 44 (q_fldo 2 tFl25_4_LdI) ?_ <;> (refine yL 45 (q_ldo 2 tNa23_LdI) fun v45 hv45 => ?_; cases hv45) <;> refine xL 46 (q_len tSl23_LdI) ?_ <;> refine xL 47 q_lss ?_ <;> refine aL_end (nav ?_) <;> try dsimp only)
     (first | refine cCd ?_ ?_ | refine cC ?_ ?_) <;> intro hb47
     · first
       | exact Bool.noConfusion hb47
       | (
        obtain ⟨x, hx⟩ := get_some (show k < a.moves.length by omega)
        obtain ⟨y, hy⟩ := get_some (show k < b.moves.length by omega)
        have e1 := flat_drop cMv_len a.moves k x hx
        have e2 := flat_fit cMv_len hx
        have e3 := flat_drop cMv_len b.moves k y hy
        have e4 := flat_fit cMv_len hy
        refine nav ?_
        (refine aC_draw (fun i => ([] : List Nat).elem i) [2, 3] (by kernel_rfl) ?_ <;> refine xD 0 50 rfl (q_fldo 2 tFl25_4_LdI) ?_ <;> (refine yD 1 51 rfl (q_ldo 2 tNa23_LdI) fun v51 hv51 => ?_; cases hv51) <;> refine xD 2 52 rfl q_move ?_ <;> refine xD 3 53 rfl (q_idxN tSl23_LdI) ?_ <;> (refine yD 4 54 rfl (q_lda tAgg40_LdI) fun v54 hv54 => ?_; cases hv54) <;> refine xD 5 55 rfl (q_fldo 3 tFl25_4_LdI) ?_ <;> (refine yD 6 56 rfl (q_ldo 3 tNa23_LdI) fun v56 hv56 => ?_; cases hv56) <;> refine xE 7 57 rfl q_move ?_ <;> refine xE 8 58 rfl (q_idxN tSl23_LdI) ?_ <;> (refine yE 9 59 rfl (q_lda tAgg40_LdI) fun v59 hv59 => ?_; cases hv59) <;> refine xE 10 60 rfl ((q_neS (us := vMv x) (us' := vMv y) uMvS hMvS gMvS (eqMv_runG x y) rfl rfl)) ?_ <;> refine aD_end (by kernel_rfl) (nav ?_) <;> try dsimp only)
        (first | refine cCd ?_ ?_ | refine cC ?_ ?_) <;> intro hb60
        · first
          | exact Bool.noConfusion hb60
          | (
           refine nav ?_
           (refine aC_region ?_ <;> refine xL 4 q_assign ?_ <;> refine aL_end (nav ?_) <;> try dsimp only)
           refine ret_shr (Tryd.results8) rfl ?_
           have hne : a.moves ≠ b.moves := ne_at hx hy (by
            have h := hb60
            rw [eqM_dec] at h
            simpa using h)
           rw [decide_eq_false (fun e => hne (by rw [e]))])
        · first
          | exact Bool.noConfusion hb60
          | (
           refine nav ?_
           (refine aC_region ?_ <;> refine xL 48 q_move ?_ <;> refine xL 49 q_add ?_ <;> refine xL 5 q_assign ?_ <;> refine aL_end (nav ?_) <;> try dsimp only)
           refine aN_again (
            ⟨k + 1, lt_of_get hx, fun j x' y' hj hx' hy' => by
             by_cases e : j = k
             · subst e; rw [hx] at hx'; rw [hy] at hy'; cases hx'; cases hy'
               have h := hb60
               rw [eqM_dec] at h
               simpa using h
             · exact hp j x' y' (by omega) hx' hy'⟩
            ) (by dsimp only; omega) ⟨rfl, rfl, rfl, trivial⟩ ⟨rfl, rfl, trivial⟩))
     · first
       | exact Bool.noConfusion hb47
       | (
        refine nav ?_
        (refine aC_region ?_ <;> refine xL 4 q_assign ?_ <;> refine aL_end (nav ?_) <;> try dsimp only)
        refine ret_shr (Tryd.results8) rfl ?_
        rw [decide_eq_true (aut_ext q1 q2 q3 q4 (eq_end hll fun j x y hx hy => hp j x y (by have := lt_of_get hx; omega) hx hy))])))
def cAut (a : Aut) : List PV := [pInt a.n, pInt a.syms, pInts a.start, pInts a.fin, pMvs a.moves]
theorem cAut_len (a : Aut) : (cAut a).length = 5 := rfl
def greatA (a : Aut) : Bool := (decide (60 < a.n) && decide (a.n ≤ 2000)) || (decide (8 < a.syms) && decide (a.syms ≤ 40)) || decide (400 < (a.moves.length : Int)) || decide (80 < (a.start.length : Int)) || decide (80 < (a.fin.length : Int))
theorem indexFuncAut_e (f : Nat) (caps : List PV) (p : Aut → Bool) (l : List Aut) (hc : ∀ args w, (callFunc f args).run Tryd.prog w = .ok (.enter f args) w) (hf : ∀ s ∈ l, AF Tryd.prog f (.agg (cAut s) :: caps) (· = pBool (p s))) : AF Tryd.prog 31 [.sl l.length (l.flatMap cAut), .fn f caps] (· = pInt (idx p l)) := by
 refine AF.of_body 19 Tryd.func31 rfl Tryd.ntmps31 (Nat.le_of_ble_eq_true rfl) ?_
 intro w0 M0 vs hl hv
 obtain ⟨v0, v1, rfl⟩ := len2 hl
 clear hl hv
 refine aC_slen 0 rfl fun hlen => ?_
 refine nav ?_
 (refine aC_region ?_ <;> refine xL 4 q_assign ?_ <;> refine aL_end (nav ?_) <;> try dsimp only)
 (refine aC_region ?_ <;> refine xL 6 q_move ?_ <;> refine xL 7 (q_len tSl43_LfT) ?_ <;> refine xL 8 q_move ?_ <;> refine aL_end (nav ?_) <;> try dsimp only)
 refine aC_loop (ι := { k : Nat // k ≤ l.length ∧ ∀ i y, i < k → l[i]? = some y → p y = false }) (fun k => ⟨[(0, _, _), (1, _, _), (7, _, _), (8, .int .i64 k.1, pInt k.1)], []⟩) (fun k => l.length - k.1) ⟨0, by omega, by omega⟩ (fun a w H => H.weaken ⟨rfl, rfl, rfl, rfl, trivial⟩ trivial) ?_
 rintro ⟨k, hk, hp⟩
 dsimp only
 refine nav ?_
 (refine aC_region ?_ <;> refine xL 9 q_lss ?_ <;> refine aL_end (nav ?_) <;> try dsimp only)
 (first | refine cCd ?_ ?_ | refine cC ?_ ?_) <;> intro hb9
 · first
   | exact Bool.noConfusion hb9
   | (
    obtain ⟨x, hx⟩ := get_some (show k < l.length by omega)
    have e1 := flat_drop cAut_len l k x hx
    have e2 := flat_fit cAut_len hx
    refine nav ?_
    (refine aC_region ?_ <;> refine xL 10 q_move ?_ <;> refine xL 5 q_assign ?_ <;> refine aL_end (nav ?_) <;> try dsimp only)
    (refine aC_region ?_ <;> refine xL 11 q_move ?_ <;> refine xL 12 q_move ?_ <;> refine xL 13 q_move ?_ <;> refine xL 14 (q_idxN tSl43_LfT) ?_ <;> (refine yL 15 (q_lda tAgg25_LdS) fun v15 hv15 => ?_; cases hv15) <;> (refine cS 16 (callF (f := f) (ps := caps) rfl ⟨_, rfl⟩ hc rfl (hf x (List.mem_of_getElem? hx))) fun v16 hv16 => ?_; cases hv16) <;> refine aL_end (nav ?_) <;> try dsimp only)
    (first | refine cCd ?_ ?_ | refine cC ?_ ?_) <;> intro hb16
    · first
      | exact Bool.noConfusion hb16
      | (
       refine nav ?_
       (refine aC_region ?_ <;> refine xL 17 q_move ?_ <;> refine xL 4 q_assign ?_ <;> refine aL_end (nav ?_) <;> try dsimp only)
       refine ret_shr (Tryd.results31) rfl ?_
       rw [idx_here hp hx hb16])
    · first
      | exact Bool.noConfusion hb16
      | (
       refine nav ?_
       (refine aC_region ?_ <;> refine xL 18 q_add ?_ <;> refine xL 8 q_move ?_ <;> refine aL_end (nav ?_) <;> try dsimp only)
       refine aN_again (
        ⟨k + 1, by omega, fun i y hi hy => by
         by_cases e : i = k
         · subst e; rw [hx] at hy; cases hy; exact hb16
         · exact hp i y (by omega) hy⟩
        ) (by dsimp only; omega) ⟨rfl, rfl, rfl, rfl, trivial⟩ trivial))
 · first
   | exact Bool.noConfusion hb9
   | (
    refine nav ?_
    (refine aC_region ?_ <;> refine xL 4 q_assign ?_ <;> refine aL_end (nav ?_) <;> try dsimp only)
    refine ret_shr (Tryd.results31) rfl ?_
    rw [idx_none fun i y hi hy => hp i y (by omega) hy])
theorem containsFuncAut_e (f : Nat) (caps : List PV) (p : Aut → Bool) (l : List Aut) (hc : ∀ args w, (callFunc f args).run Tryd.prog w = .ok (.enter f args) w) (hf : ∀ s ∈ l, AF Tryd.prog f (.agg (cAut s) :: caps) (· = pBool (p s))) : AF Tryd.prog 16 [.sl l.length (l.flatMap cAut), .fn f caps] (· = pBool (l.any p)) := by
 refine AF.of_body 9 Tryd.func16 rfl Tryd.ntmps16 (Nat.le_of_ble_eq_true rfl) ?_
 intro w0 M0 vs hl hv
 obtain ⟨v0, v1, rfl⟩ := len2 hl
 clear hl hv
 refine nav ?_
 (refine aC_region ?_ <;> refine xL 4 q_assign ?_ <;> refine aL_end (nav ?_) <;> try dsimp only)
 (refine aC_region ?_ <;> refine xL 5 q_move ?_ <;> refine xL 6 q_move ?_ <;> (refine cS 7 (cA Tryd.call31 (indexFuncAut_e f caps p l hc hf)) fun v7 hv7 => ?_; cases hv7) <;> refine xL 8 q_geq ?_ <;> refine xL 4 q_assign ?_ <;> refine aL_end (nav ?_) <;> try dsimp only)
 refine ret_shr (Tryd.results16) rfl ?_
 rw [idx_any]
theorem great071_e (a : Aut) : AF Tryd.prog 17 [.agg (cAut a)] (· = pBool (greatA a)) := by
 refine AF.of_body 39 Tryd.func17 rfl Tryd.ntmps17 (Nat.le_of_ble_eq_true rfl) ?_
 intro w0 M0 vs hl hv
 obtain ⟨v0, rfl⟩ := len1 hl
 clear hl hv
 refine nav ?_
 (refine aC_region ?_ <;> refine s_boxa 1 5 fun h1 => ?_ <;> refine xL 2 q_assign ?_ <;> refine aL_end (nav ?_) <;> try dsimp only)
 (refine aC_region ?_ <;> refine xL 3 (q_fldo 1 tFl25_0_LdI) ?_ <;> (refine yL 4 (q_ldo 1 tNa3_LbB) fun v4 hv4 => ?_; cases hv4) <;> refine xL 5 q_gtr ?_ <;> refine xL 6 q_move ?_ <;> (refine bLd 6 (fun hb6 => ?_) (fun hb6 => ?_) <;> (first | refine kL 7 ?_ | refine xL 7 (q_fldo 1 tFl25_0_LdI) ?_)) <;> (first | refine kL 8 ?_ | (refine yL 8 (q_ldo 1 tNa3_LbB) fun v8 hv8 => ?_; cases hv8)) <;> (first | refine kL 9 ?_ | refine xL 9 q_leq ?_) <;> refine xL 10 q_pick ?_ <;> refine xL 11 q_move ?_ <;> (first | refine xL 12 (q_fldo 1 tFl25_1_LdI) ?_ | (refine bLd 11 (fun hb11 => ?_) (fun hb11 => ?_) <;> (first | refine kL 12 ?_ | refine xL 12 (q_fldo 1 tFl25_1_LdI) ?_))) <;> (first | refine kL 13 ?_ | (refine yL 13 (q_ldo 1 tNa3_LbB) fun v13 hv13 => ?_; cases hv13)) <;> (first | refine kL 14 ?_ | refine xL 14 q_gtr ?_) <;> (first | refine kL 15 ?_ | refine xL 15 q_move ?_) <;> (first | refine kL 16 ?_ | (refine bLd 15 (fun hb15 => ?_) (fun hb15 => ?_) <;> (first | refine kL 16 ?_ | refine xL 16 (q_fldo 1 tFl25_1_LdI) ?_))) <;> (first | refine kL 17 ?_ | (refine yL 17 (q_ldo 1 tNa3_LbB) fun v17 hv17 => ?_; cases hv17)) <;> (first | refine kL 18 ?_ | refine xL 18 q_leq ?_) <;> (first | refine kL 19 ?_ | refine xL 19 q_pick ?_) <;> refine xL 20 q_pick ?_ <;> refine xL 21 q_move ?_ <;> (first | refine kL 22 ?_ | refine xL 22 (q_fldo 1 tFl25_4_LdI) ?_ | (refine bLd 21 (fun hb21 => ?_) (fun hb21 => ?_) <;> (first | refine kL 22 ?_ | refine xL 22 (q_fldo 1 tFl25_4_LdI) ?_))) <;> (first | refine kL 23 ?_ | (refine yL 23 (q_ldo 1 tNa23_LdI) fun v23 hv23 => ?_; cases hv23)) <;> (first | refine kL 24 ?_ | refine xL 24 (q_len tSl23_LdI) ?_) <;> (first | refine kL 25 ?_ | refine xL 25 q_gtr ?_) <;> refine xL 26 q_pick ?_ <;> refine xL 27 q_move ?_ <;> (first | refine kL 28 ?_ | (refine bLd 27 (fun hb27 => ?_) (fun hb27 => ?_) <;> (first | refine kL 28 ?_ | refine xL 28 (q_fldo 1 tFl25_2_LdI) ?_))) <;> (first | refine kL 29 ?_ | (refine yL 29 (q_ldo 1 tNa22_LdI) fun v29 hv29 => ?_; cases hv29)) <;> (first | refine kL 30 ?_ | refine xL 30 (q_len tSl22_LbB) ?_) <;> (first | refine kL 31 ?_ | refine xL 31 q_gtr ?_) <;> refine xL 32 q_pick ?_ <;> refine xL 33 q_move ?_ <;> (first | refine kL 34 ?_ | (refine bLd 33 (fun hb33 => ?_) (fun hb33 => ?_) <;> (first | refine kL 34 ?_ | refine xL 34 (q_fldo 1 tFl25_3_LdI) ?_))) <;> (first | refine kL 35 ?_ | (refine yL 35 (q_ldo 1 tNa22_LdI) fun v35 hv35 => ?_; cases hv35)) <;> (first | refine kL 36 ?_ | refine xL 36 (q_len tSl22_LbB) ?_) <;> (first | refine kL 37 ?_ | refine xL 37 q_gtr ?_) <;> refine xL 38 q_pick ?_ <;> refine xL 2 q_assign ?_ <;> refine aL_end (nav ?_) <;> try dsimp only) <;> (
  refine ret_shr (Tryd.results17) rfl ?_
  refine congrArg pBool ?_
  unfold greatA
  clear w0 M0 v0 h1
  first | (simp_all; done) | (simp_all; omega))
theorem great07_e (l : List Aut) : AF Tryd.prog 5 [.sl l.length (l.flatMap cAut)] (· = pBool (l.any greatA)) := by
 refine AF.of_body 5 Tryd.func5 rfl Tryd.ntmps5 (Nat.le_of_ble_eq_true rfl) ?_
 intro w0 M0 vs hl hv
 obtain ⟨v0, rfl⟩ := len1 hl
 clear hl hv
 refine nav ?_
 (refine aC_region ?_ <;> refine xL 2 q_assign ?_ <;> refine aL_end (nav ?_) <;> try dsimp only)
 (refine aC_region ?_ <;> refine xL 3 q_move ?_ <;> (refine cS 4 (cA Tryd.call16 (containsFuncAut_e 17 [] greatA l (Tryd.call17) (fun a _ => great071_e a))) fun v4 hv4 => ?_; cases hv4) <;> refine xL 2 q_assign ?_ <;> refine aL_end (nav ?_) <;> try dsimp only)
 exact ret_shr Tryd.results5 rfl rfl
theorem ends07_e : AF Tryd.prog 11 [] (· = pAut ex07) := by
 refine AF.of_body 8 Tryd.func11 rfl Tryd.ntmps11 (Nat.le_of_ble_eq_true rfl) ?_
 intro w0 M0 vs hl hv
 obtain rfl := List.eq_nil_of_length_eq_zero hl
 clear hl hv
 refine nav ?_
 (refine aC_region ?_ <;> refine s_alloc [(.int .i64 0), (.int .i64 0), (.slice none 0 0), (.slice none 0 0), (.slice none 0 0)] 5 0 tZr25_LfD fun h0 => ?_ <;> refine aL_end (nav ?_) <;> try dsimp only)
 (refine aC_region ?_ <;> (refine s_lit1 (kk := 1) 1 tEl22_LdI fun h1 ho1 => ?_; refine aL_ent (En.freeze (l := 1) (t := 1) rfl rfl) fun _ => ?_; refine aL_ent (reslot (t := 1) (p' := pInts [0]) rfl rfl) fun _ => ?_) <;> (refine s_lit1 (kk := 1) 2 tEl22_LdI fun h2 ho2 => ?_; refine aL_ent (En.freeze (l := 2) (t := 2) rfl rfl) fun _ => ?_; refine aL_ent (reslot (t := 2) (p' := pInts [1]) rfl rfl) fun _ => ?_) <;> refine xL 3 (q_build tSt40_LfD) ?_ <;> refine xL 4 (q_build tSt40_LfD) ?_ <;> refine xL 5 (q_build tSt40_LfD) ?_ <;> (refine s_lita (kk := 3) (xs := [_, _, _]) (cs := [[_, _, _], [_, _, _], [_, _, _]]) 6 tEl23_LdR fun h6 ho6 => ?_; refine aL_ent (En.freeze (l := 6) (t := 6) rfl rfl) fun _ => ?_; refine aL_ent (reslot (t := 6) (p' := pMvs ex07.moves) rfl rfl) fun _ => ?_) <;> refine xL 7 (q_build tSt25_LfD) ?_ <;> refine s_sta 0 tAgg25_LdS ?_ <;> refine aL_end (nav ?_) <;> try dsimp only)
 exact ret_cell (k := 5) 0 (by kernel_rfl) (Tryd.results11) rfl rfl (Nat.le_of_ble_eq_true rfl) (by decide) rfl rfl
def ex07S : Aut := ⟨2, 2, [0], [0], [⟨0, 1, 0⟩, ⟨0, 0, 1⟩, ⟨1, 1, 0⟩, ⟨1, 0, 1⟩]⟩
theorem ex07_subS : (subI (mkA (starA ex07))).upto (closI (mkA (starA ex07)) (mkA (starA ex07)).start) 3 = some ([[0, 2], [0], [0, 1, 2]], [[1, 2], [1, 2], [1, 2]]) := by kernel_rfl
theorem ex07_minS : leastT ⟨2, [[1, 2], [1, 2], [1, 2]], [true, false, true]⟩ = some ex07S := by kernel_rfl
theorem ex07_redS : redX (mkA (starA ex07)) = .ok ex07S := redX_of 3 ex07_subS (by decide) (by decide) ex07_minS
theorem ex07_star : starX ex07 = .ok ex07S := by
 unfold starX madeX redL
 rw [ex07_ok, if_pos rfl, if_neg (by show ¬ (2000 < ((2 : Int) + 1) ∨ 20000 < (mkM (starA ex07).moves).length); rw [show (mkM (starA ex07).moves).length = 5 by kernel_rfl]; omega)]
 exact ex07_redS
theorem ex07_subS2 : (subI ex07S).upto (closI ex07S ex07S.start) 2 = some ([[0], [1]], [[1, 0], [1, 0]]) := by kernel_rfl
theorem ex07_minS2 : leastT ⟨2, [[1, 0], [1, 0]], [true, false]⟩ = some ex07S := by kernel_rfl
theorem ex07_redS2 : redX ex07S = .ok ex07S := redX_of 2 ex07_subS2 (by decide) (by decide) ex07_minS2
theorem ex07_prodS : (prodW ex07M ex07S).upto ((0, 0), (-1, -1)) 3 = some ([((0, 0), (-1, -1)), ((0, 1), (0, 0)), ((1, 0), (0, 1))], [[1, 2], [1, 2], [1, 2]]) := by kernel_rfl
theorem ex07_cmpS : cmpX ex07 ex07S 4 = (false, [], 0) := (cmpX_of (by kernel_rfl) (bothX_of 3 ex07_red ex07_redS2 ex07_prodS (by decide) (by decide))).trans (by kernel_rfl)
theorem ex07_prodM : (prodW ex07M ex07M).upto ((0, 0), (-1, -1)) 2 = some ([((0, 0), (-1, -1)), ((1, 1), (0, 1))], [[0, 1], [0, 1]]) := by kernel_rfl
theorem ex07_cmpM : cmpX ex07 ex07M 4 = (true, [], 0) := (cmpX_of (by kernel_rfl) (bothX_of 2 ex07_red ex07_redM ex07_prodM (by decide) (by decide))).trans (by kernel_rfl)
theorem ex07_far : farL ex07 = [1, 0] := by kernel_rfl
theorem ex07_big : bigI ex07 [1, 0] 2 = false := by kernel_rfl
theorem ex07_sum : sumI ex07 [1, 0] 2 3 = [[1], [0, 1], [1, 1]] := by kernel_rfl
theorem ex07_words : AF Tryd.prog 12 [pAut ex07, pInt 2] (· = .tup [pIntss [[1], [0, 1], [1, 1]], pInt 0]) := (aWords_e ex07 2).mono fun p hp => by
 rcases hp with ⟨h, _⟩ | ⟨_, h, _⟩ | ⟨_, _, _, h, _⟩ | ⟨_, _, _, _, h⟩
 · rw [ex07_ok] at h; cases h
 · omega
 · rw [bigI_eq, ex07_far, show (2 : Int).toNat = 2 from rfl, ex07_big] at h; cases h
 · rw [h, sumI_eq, ex07_far, show (2 : Int).toNat = 2 from rfl, ex07_sum]
theorem ex07_minE : AF Tryd.prog 6 [pAut ex07] (· = .tup [pAut ex07M, pInt 0]) := by
 have := aMinimalW_e ex07
 rw [ex07_minX] at this; exact this
theorem ex07_starE : AF Tryd.prog 13 [pAut ex07] (· = .tup [pAut ex07S, pInt 0]) := by
 have := aStar_e ex07
 rw [ex07_star] at this; exact this
theorem ex07_eqS : AF Tryd.prog 7 [pAut ex07, pAut ex07S] (· = .tup [pBool false, pInts [], pInt 0]) := by
 have := aEquivalent_e ex07 ex07S
 rw [ex07_cmpS] at this; exact this
theorem ex07_eqM : AF Tryd.prog 7 [pAut ex07, pAut ex07M] (· = .tup [pBool true, pInts [], pInt 0]) := by
 have := aEquivalent_e ex07 ex07M
 rw [ex07_cmpM] at this; exact this
set_option maxHeartbeats 2000000 in
theorem awake07_e : AF Tryd.prog 4 [] (· = pBool true) := by
 refine AF.of_body 94 Tryd.func4 rfl Tryd.ntmps4 (Nat.le_of_ble_eq_true rfl) ?_
 intro w0 M0 vs hl hv
 obtain rfl := List.eq_nil_of_length_eq_zero hl
 clear hl hv
 refine nav ?_
 (refine aC_region ?_ <;> refine xL 0 q_assign ?_ <;> refine aL_end (nav ?_) <;> try dsimp only)
 (refine aC_region ?_ <;> (refine cD 15 (cA Tryd.call11 (ends07_e)) fun v15 hv15 => ?_; clear hv15) <;> refine s_alloc [(.int .i64 0), (.int .i64 0), (.slice none 0 0), (.slice none 0 0), (.slice none 0 0)] 5 1 tZr25_LfD fun h1 => ?_ <;> refine s_sta 1 tAgg25_LdS ?_ <;> refine aL_end (nav ?_) <;> try dsimp only)
 (refine aC_region ?_ <;> (refine yL 17 (q_ldao 1 tAgg25_LdS) fun v17 hv17 => ?_; cases hv17) <;> (refine cP 18 (cA Tryd.call6 (ex07_minE)) fun va18 vb18 hva18 hvb18 => ?_; cases hvb18) <;> refine xL 16 q_move ?_ <;> refine xL 19 q_extract ?_ <;> refine xL 20 q_extract ?_ <;> refine s_alloc [(.int .i64 0), (.int .i64 0), (.slice none 0 0), (.slice none 0 0), (.slice none 0 0)] 5 2 tZr25_LfD fun h2 => ?_ <;> refine s_sta 2 tAgg25_LdS ?_ <;> refine xL 3 q_assign ?_ <;> refine aL_end (nav ?_) <;> try dsimp only)
 (refine aC_region ?_ <;> (refine yL 22 (q_ldao 1 tAgg25_LdS) fun v22 hv22 => ?_; cases hv22) <;> (refine cP 23 (cA Tryd.call12 (ex07_words)) fun va23 vb23 hva23 hvb23 => ?_; cases hvb23) <;> refine xL 21 q_move ?_ <;> refine xL 24 q_extract ?_ <;> refine xL 25 q_extract ?_ <;> refine xL 4 q_assign ?_ <;> refine xL 5 q_assign ?_ <;> refine aL_end (nav ?_) <;> try dsimp only)
 (refine aC_region ?_ <;> (refine yL 27 (q_ldao 1 tAgg25_LdS) fun v27 hv27 => ?_; cases hv27) <;> (refine cP 28 (cA Tryd.call13 (ex07_starE)) fun va28 vb28 hva28 hvb28 => ?_; cases hvb28) <;> refine xL 26 q_move ?_ <;> refine xL 29 q_extract ?_ <;> refine xL 30 q_extract ?_ <;> refine s_alloc [(.int .i64 0), (.int .i64 0), (.slice none 0 0), (.slice none 0 0), (.slice none 0 0)] 5 6 tZr25_LfD fun h6 => ?_ <;> refine s_sta 6 tAgg25_LdS ?_ <;> refine xL 7 q_assign ?_ <;> refine aL_end (nav ?_) <;> try dsimp only)
 (refine aC_region ?_ <;> (refine yL 32 (q_ldao 1 tAgg25_LdS) fun v32 hv32 => ?_; cases hv32) <;> (refine yL 33 (q_ldao 6 tAgg25_LdS) fun v33 hv33 => ?_; cases hv33) <;> (refine cPx3 34 (cA Tryd.call7 ex07_eqS) fun va34 vb34 vc34 hva34 hvb34 hvc34 => ?_; cases hva34; cases hvc34) <;> refine xL 31 q_move ?_ <;> refine xL 35 q_extract ?_ <;> refine xL 36 q_extract ?_ <;> refine xL 37 q_extract ?_ <;> refine xL 8 q_assign ?_ <;> refine xL 9 q_assign ?_ <;> refine xL 10 q_assign ?_ <;> refine aL_end (nav ?_) <;> try dsimp only)
 (refine aC_region ?_ <;> (refine yL 39 (q_ldao 1 tAgg25_LdS) fun v39 hv39 => ?_; cases hv39) <;> (refine yL 40 (q_ldao 2 tAgg25_LdS) fun v40 hv40 => ?_; cases hv40) <;> (refine cPx3 41 (cA Tryd.call7 ex07_eqM) fun va41 vb41 vc41 hva41 hvb41 hvc41 => ?_; cases hva41; cases hvc41) <;> refine xL 38 q_move ?_ <;> refine xL 42 q_extract ?_ <;> refine xL 43 q_extract ?_ <;> refine xL 44 q_extract ?_ <;> refine xL 11 q_assign ?_ <;> refine xL 12 q_assign ?_ <;> refine xL 13 q_assign ?_ <;> refine aL_end (nav ?_) <;> try dsimp only)
 (refine aC_region ?_ <;> refine xL 45 (q_build tSt40_LfD) ?_ <;> refine xL 46 (q_build tSt40_LfD) ?_ <;> refine xL 47 (q_build tSt40_LfD) ?_ <;> refine xL 48 (q_build tSt40_LfD) ?_ <;> (refine s_lita (kk := 3) (xs := [_, _, _, _]) (cs := [[_, _, _], [_, _, _], [_, _, _], [_, _, _]]) 49 tEl23_LdR fun h49 ho49 => ?_; refine aL_ent (En.freeze (l := 49) (t := 49) rfl rfl) fun _ => ?_; refine aL_ent (reslot (t := 49) (p' := pMvs ex07M.moves) rfl rfl) fun _ => ?_) <;> refine xL 14 q_assign ?_ <;> refine aL_end (nav ?_) <;> try dsimp only)
 (refine aC_region ?_ <;> refine xL 50 q_move ?_ <;> refine xL 51 q_eql ?_ <;> refine xL 52 q_move ?_ <;> refine xL 53 (q_fldo 2 tFl25_4_LdI) ?_ <;> (refine yL 54 (q_ldo 2 tNa23_LdI) fun v54 hv54 => ?_; cases hv54) <;> refine xL 55 q_move ?_ <;> (refine cS 56 (cA Tryd.call14 ((sEqualMv_e ex07M.moves ex07M.moves).mono (R' := (· = pBool true)) fun p hp => by rw [hp]; rfl)) fun v56 hv56 => ?_; cases hv56) <;> refine xL 57 q_pick ?_ <;> refine xL 58 q_move ?_ <;> refine xL 59 q_move ?_ <;> refine xL 60 q_eql ?_ <;> refine xL 61 q_pick ?_ <;> refine xL 62 q_move ?_ <;> refine xL 63 q_move ?_ <;> (refine s_lit1 (kk := 1) 64 tEl22_LdI fun h64 ho64 => ?_; refine aL_ent (En.freeze (l := 64) (t := 64) rfl rfl) fun _ => ?_; refine aL_ent (reslot (t := 64) (p' := pInts [1]) rfl rfl) fun _ => ?_) <;> (refine s_litn (xs := [_, _]) 65 tEl22_LdI fun h65 ho65 => ?_; refine aL_ent (En.freeze (l := 65) (t := 65) rfl rfl) fun _ => ?_; refine aL_ent (reslot (t := 65) (p' := pInts [0, 1]) rfl rfl) fun _ => ?_) <;> (refine s_litn (xs := [_, _]) 66 tEl22_LdI fun h66 ho66 => ?_; refine aL_ent (En.freeze (l := 66) (t := 66) rfl rfl) fun _ => ?_; refine aL_ent (reslot (t := 66) (p' := pInts [1, 1]) rfl rfl) fun _ => ?_) <;> (refine s_litn (xs := [_, _, _]) 67 tEl36_LdS fun h67 ho67 => ?_; refine aL_ent (En.freeze (l := 67) (t := 67) rfl rfl) fun _ => ?_; refine aL_ent (reslot (t := 67) (p' := pIntss [[1], [0, 1], [1, 1]]) rfl rfl) fun _ => ?_) <;> (refine cS 68 (cA Tryd.call15 ((sEqualFuncInts_e [[1], [0, 1], [1, 1]] [[1], [0, 1], [1, 1]]).mono (R' := (· = pBool true)) fun p hp => by rw [hp]; rfl)) fun v68 hv68 => ?_; cases hv68) <;> refine xL 69 q_pick ?_ <;> refine xL 70 q_move ?_ <;> refine xL 71 q_move ?_ <;> refine xL 72 q_eql ?_ <;> refine xL 73 q_pick ?_ <;> refine xL 74 q_move ?_ <;> refine xL 75 q_move ?_ <;> refine xL 76 q_eql ?_ <;> refine xL 77 q_pick ?_ <;> refine xL 78 q_move ?_ <;> refine xL 79 q_move ?_ <;> refine xL 80 q_not ?_ <;> refine xL 81 q_pick ?_ <;> refine xL 82 q_move ?_ <;> refine xL 83 q_move ?_ <;> refine xL 84 (q_len tSl22_LbB) ?_ <;> refine xL 85 q_eql ?_ <;> refine xL 86 q_pick ?_ <;> refine xL 87 q_move ?_ <;> refine xL 88 q_move ?_ <;> refine xL 89 q_eql ?_ <;> refine xL 90 q_pick ?_ <;> refine xL 91 q_move ?_ <;> refine xL 92 q_move ?_ <;> refine xL 93 q_pick ?_ <;> refine xL 0 q_assign ?_ <;> refine aL_end (nav ?_) <;> try dsimp only) <;> (
  refine ret_shr (Tryd.results4) rfl rfl)
end Go.Proofs.YtgigclnaicbiaaaDoor
namespace Go.En
open Go.RowKit Go.Cb Go.WideShapes Go.ChangeShapes Go.ChangeAt Go.Deep
set_option linter.all false
theorem weightsAll_mem {H : Type} (P : Program) (e : TypeId) {d : DataW H} {n : Nat} : ∀ {l : List (DataW H)}, d ∈ l → n ∈ d.weights P e → n ∈ DataW.weightsAll P e l
 | x :: l, h, hn => by
   rw [DataW.weightsAll, List.mem_append]
   rcases List.mem_cons.1 h with rfl | h
   · exact .inl hn
   · exact .inr (weightsAll_mem P e h hn)
theorem weightsEach_mem {H : Type} (P : Program) {d : DataW H} {t : TypeId} {n : Nat} : ∀ {ts : List TypeId} {l : List (DataW H)} (i : Nat), ts[i]? = some t → l[i]? = some d → n ∈ d.weights P t → n ∈ DataW.weightsEach P ts l
 | t' :: ts, x :: l, 0, h1, h2, hn => by
   simp at h1 h2
   subst h1 h2
   rw [DataW.weightsEach, List.mem_append]
   exact .inl hn
 | t' :: ts, x :: l, i + 1, h1, h2, hn => by
   rw [DataW.weightsEach, List.mem_append]
   exact .inr (weightsEach_mem P i (by simpa using h1) (by simpa using h2) hn)
structure Dec (P : Program) (t : TypeId) (k : Nat) {α : Type} (enc : α → List PV) (fit : α → Prop) : Prop where
 size : P.cellsOf t = k
 len : ∀ a, (enc a).length = k
 dec : ∀ {H : Type} (e : TypeId × Value → H) (w : World) (spare : Nat → Bool) (held : Bool) (fuel : Nat) (cs : List Value) (x : DataW H × List MemPlace), DataW.trod e P w 0 spare held fuel t cs = some x → (∀ n ∈ x.1.weights P t, n ≤ reachBytes) →
  ∃ a, fit a ∧ cs.length = k ∧ ∀ (i : Nat) (v : Value) (p : PV), cs[i]? = some v → (enc a)[i]? = some p → Shr (fun _ => False) w v p
section
variable {P : Program} {t : TypeId}
theorem one_at {v u : Value} {p q : PV} {w : World} (h : Shr (fun _ => False) w v p) (i : Nat) (h1 : [v][i]? = some u) (h2 : [p][i]? = some q) : Shr (fun _ => False) w u q := by
 cases i with
 | zero => simp at h1 h2; subst h1 h2; exact h
 | succ i => simp at h1
theorem dec_int (ht : P.underlying t = some (.int .i64)) (hs : P.cellsOf t = 1) : Dec P t 1 (fun n : Int => [pInt n]) (fun n => -9223372036854775808 ≤ n ∧ n ≤ 9223372036854775807) where
 size := hs
 len := fun _ => rfl
 dec := fun e w spare held fuel cs x h => by
  intro hwt
  obtain ⟨n, rfl, _, hw⟩ := DataW.trod_int ht h
  refine ⟨n, ?_, rfl, fun i v p h1 h2 => one_at (.val _) i h1 h2⟩
  simpa [Lit.wf, IntKind.min, IntKind.max, IntKind.signed, IntKind.bits] using hw
theorem dec_slice {α : Type} {e k : Nat} {enc : α → List PV} {fit : α → Prop} (ht : P.underlying t = some (.slice e)) (hs : P.cellsOf t = 1) (hk : 0 < k) (hby : 0 < P.bytesOf e) (D : Dec P e k enc fit) :
 Dec P t 1 (fun l : List α => [PV.sl l.length (l.flatMap enc)]) (fun l => l.length ≤ 140737488355328 ∧ ∀ x ∈ l, fit x) where
 size := hs
 len := fun _ => rfl
 dec := fun en w spare held fuel cs x h => by
  intro hwt
  rcases open_slice ht h with ⟨rfl, _⟩ | ⟨a, len, cap, m, n, Dt, Pl, rfl, _, hl, hm, hmm, rfl, hx⟩
  · exact ⟨[], ⟨by simp, by simp⟩, rfl, fun i v p h1 h2 => one_at (.emp none 0 (by unfold maxLen; omega) (fun _ => rfl)) i h1 h2⟩
  · rcases Nat.eq_zero_or_pos len with h0 | h0
    · subst h0
      exact ⟨[], ⟨by simp, by simp⟩, rfl, fun i v p h1 h2 => one_at (.emp (some a) cap hm (fun h => by cases h)) i h1 h2⟩
    have hlm : len ≤ m := by rw [hmm]; split <;> omega
    simp only [DataW.weights, ht] at hwt
    have hlen : len ≤ reachBytes := by
     have := hwt _ (List.mem_cons_self ..)
     simp only [List.length_map, List.length_range] at this
     exact Nat.le_trans (Nat.le_trans (Nat.le_add_right len _) (Nat.le_mul_of_pos_right _ hby)) this
    have hwi : ∀ i, i < len → ∀ n ∈ (Dt i).weights P e, n ≤ reachBytes := fun i hi n hn => hwt n (List.mem_cons_of_mem _ (List.mem_append.2 (.inl (weightsAll_mem P e (List.mem_map.2 ⟨i, by simpa using hi, rfl⟩) hn))))
    have key : ∀ i : Nat, ∃ (y : α × (Nat → Value)), i < len → fit y.1 ∧ ∀ (j : Nat) (p : PV), (enc y.1)[j]? = some p → w.cell? ((a.add (i * k)).add j) = some (y.2 j) ∧ Shr (fun _ => False) w (y.2 j) p := fun i => by
     obtain ⟨cs0, h10, h20⟩ := hx 0 (by omega)
     obtain ⟨y0, _⟩ := D.dec en w spare held n cs0 _ h20 (hwi 0 h0)
     by_cases hi : i < len
     · obtain ⟨cs', h1, h2⟩ := hx i (by omega)
       rw [D.size] at h1
       obtain ⟨_, hlen, hcell⟩ := World.cells?_some h1
       obtain ⟨y, hy, _, hS⟩ := D.dec en w spare held n cs' _ h2 (hwi i hi)
       refine ⟨(y, fun j => (cs'[j]?).getD undef), fun _ => ⟨hy, fun j p hp => ?_⟩⟩
       have hj : j < k := by rw [← D.len y]; exact lt_of_get hp
       obtain ⟨u, hu⟩ := get_of_lt (show j < cs'.length by omega)
       have := hcell j hj
       simp only [hu, Option.getD_some]
       exact ⟨by rw [this, hu], hS j u p hu hp⟩
     · exact ⟨(y0, fun _ => undef), fun h => absurd h hi⟩
    obtain ⟨Y, hY⟩ := Classical.skolem.1 key
    have hspot : ∃ b off, a = ⟨b, off, none⟩ := by
     obtain ⟨hf, hc⟩ := hY 0 h0
     obtain ⟨p, hp⟩ := get_of_lt (show 0 < (enc (Y 0).1).length by rw [D.len]; exact hk)
     have := (hc 0 p hp).1
     obtain ⟨b, off, spot⟩ := a
     have hspot : spot = none := by simpa [Addr.add] using World.cell?_spot this
     subst hspot
     exact ⟨b, off, rfl⟩
    obtain ⟨b, off, rfl⟩ := hspot
    have hflen : ((List.range len).map fun i => (Y i).1).length = len := by simp
    refine ⟨(List.range len).map fun i => (Y i).1, ⟨by rw [hflen]; unfold reachBytes at hlen; omega, fun x hx => ?_⟩, rfl, fun i v p h1 h2 => one_at ?_ i h1 h2⟩
    · obtain ⟨i, hi, rfl⟩ := List.mem_map.1 hx
      exact (hY i (by simpa using hi)).1
    · rw [hflen]
      have hat : ∀ (c : Nat) (p : PV), (((List.range len).map fun i => (Y i).1).flatMap enc)[c]? = some p → c / k < len ∧ (enc (Y (c / k)).1)[c % k]? = some p := fun c p hp => by
       have hc : c < len * k := by have := lt_of_get hp; rw [flat_len D.len, hflen] at this; exact this
       have hq : c / k < len := Nat.div_lt_of_lt_mul (by rw [Nat.mul_comm]; exact hc)
       have hget : ((List.range len).map fun i => (Y i).1)[c / k]? = some (Y (c / k)).1 := by simp [hq]
       have := flat_at D.len hget (Nat.mod_lt c hk)
       rw [Nat.mul_comm, Nat.div_add_mod] at this
       exact ⟨hq, by rw [← this]; exact hp⟩
      refine .sl b off len cap _ (fun c => (Y (c / k)).2 (c % k)) hl hm (fun c hc => ⟨?_, fun h => h⟩) (fun c p hp => ?_)
      · obtain ⟨p, hp⟩ := get_of_lt hc
        obtain ⟨hq, hp'⟩ := hat c p hp
        have := ((hY (c / k) hq).2 (c % k) p hp').1
        rw [add_none, add_none, Nat.add_assoc, Nat.mul_comm, Nat.div_add_mod] at this
        exact this
      · obtain ⟨hq, hp'⟩ := hat c p hp
        exact ((hY (c / k) hq).2 (c % k) p hp').2
theorem dec_field {H : Type} {α : Type} {e k o : Nat} {enc : α → List PV} {fit : α → Prop} (D : Dec P e k enc fit) {en : TypeId × Value → H} {w : World} {spare : Nat → Bool} {held : Bool} {n : Nat} {cs : List Value} {y : DataW H × List MemPlace}
 (h : DataW.trod en P w 0 spare held n e ((cs.drop o).take (P.cellsOf e)) = some y) (hwt : ∀ n ∈ y.1.weights P e, n ≤ reachBytes) : ∃ a, fit a ∧ ∀ (i : Nat) (v : Value) (p : PV), cs[o + i]? = some v → (enc a)[i]? = some p → Shr (fun _ => False) w v p := by
 obtain ⟨a, h1, _, h3⟩ := D.dec en w spare held n _ y h hwt
 refine ⟨a, h1, fun i v p hv hp => h3 i v p ?_ hp⟩
 have hi : i < k := by rw [← D.len a]; exact lt_of_get hp
 rw [D.size, List.getElem?_take_of_lt hi, List.getElem?_drop]; exact hv
theorem dec_map {α β : Type} {k : Nat} {enc : α → List PV} {enc' : β → List PV} {fit : α → Prop} {fit' : β → Prop} (g : α → β) (D : Dec P t k enc fit) (hl : ∀ b, (enc' b).length = k) (he : ∀ a, enc' (g a) = enc a) (h : ∀ a, fit a → fit' (g a)) : Dec P t k enc' fit' :=
 ⟨D.size, hl, fun e w s hd f cs x hx hy => let ⟨a, h1, h2, h3⟩ := D.dec e w s hd f cs x hx hy; ⟨g a, h a h1, h2, by rw [he]; exact h3⟩⟩
theorem split_at {cs : List Value} {A B : List PV} {k : Nat} {w : World} (hA : A.length = k) (h1 : ∀ (i : Nat) (v : Value) (p : PV), cs[i]? = some v → A[i]? = some p → Shr (fun _ => False) w v p)
 (h2 : ∀ (i : Nat) (v : Value) (p : PV), cs[k + i]? = some v → B[i]? = some p → Shr (fun _ => False) w v p) (i : Nat) (v : Value) (p : PV) (hv : cs[i]? = some v) (hp : (A ++ B)[i]? = some p) : Shr (fun _ => False) w v p := by
 rcases Nat.lt_or_ge i k with h | h
 · rw [List.getElem?_append_left (by omega)] at hp; exact h1 i v p hv hp
 · rw [List.getElem?_append_right (by omega)] at hp
   exact h2 (i - k) v p (by rw [Nat.add_sub_cancel' h]; exact hv) (by rw [← hA]; exact hp)
theorem dec_struct3 {α β γ : Type} {f0 f1 f2 : Field} {k0 k1 k2 : Nat} {enc0 : α → List PV} {enc1 : β → List PV} {enc2 : γ → List PV} {fit0 : α → Prop} {fit1 : β → Prop} {fit2 : γ → Prop} (ht : P.underlying t = some (.struct #[f0, f1, f2])) (hs : P.cellsOf t = k0 + k1 + k2)
 (D0 : Dec P f0.type k0 enc0 fit0) (D1 : Dec P f1.type k1 enc1 fit1) (D2 : Dec P f2.type k2 enc2 fit2) (ho0 : f0.offset = 0) (ho1 : f1.offset = k0) (ho2 : f2.offset = k0 + k1) :
 Dec P t (k0 + k1 + k2) (fun x : α × β × γ => enc0 x.1 ++ (enc1 x.2.1 ++ enc2 x.2.2)) (fun x => fit0 x.1 ∧ fit1 x.2.1 ∧ fit2 x.2.2) where
 size := hs
 len := fun x => by rw [List.length_append, List.length_append, D0.len, D1.len, D2.len]; omega
 dec := fun e w spare held fuel cs x h => by
  intro hwt
  obtain ⟨xs, n, _, rfl, hlen, hxl, hf⟩ := DataW.trod_struct ht h
  simp only [DataW.weights, ht] at hwt
  have g0 := hf 0 f0 rfl
  have g1 := hf 1 f1 rfl
  have g2 := hf 2 f2 rfl
  match xs, hxl with
  | [y0, y1, y2], _ =>
  rw [ho0] at g0
  rw [ho1] at g1
  rw [ho2] at g2
  obtain ⟨a, ha, A⟩ := dec_field D0 g0 (fun n hn => hwt n (weightsEach_mem P 0 (by simp) (by simp) hn))
  obtain ⟨b, hb, B⟩ := dec_field D1 g1 (fun n hn => hwt n (weightsEach_mem P 1 (by simp) (by simp) hn))
  obtain ⟨c, hc, C⟩ := dec_field D2 g2 (fun n hn => hwt n (weightsEach_mem P 2 (by simp) (by simp) hn))
  refine ⟨(a, b, c), ⟨ha, hb, hc⟩, by rw [hlen, hs], split_at (D0.len a) (fun i v p hv hp => A i v p (by rw [Nat.zero_add]; exact hv) hp) fun i v p hv hp => ?_⟩
  exact split_at (cs := cs.drop k0) (D1.len b) (fun i v p hv hp => B i v p (by rw [List.getElem?_drop] at hv; exact hv) hp) (fun i v p hv hp => C i v p (by rw [List.getElem?_drop, ← Nat.add_assoc] at hv; exact hv) hp) i v p (by rw [List.getElem?_drop]; exact hv) hp
section
variable {H : Type} {en : TypeId × Value → H} {w : World} {spare : Nat → Bool} {held : Bool} {r : Reach} {base : Nat} {v : Value} {d : DataW H} {ps : List MemPlace}
theorem argA {α : Type} {k : Nat} {enc : α → List PV} {fit : α → Prop} (D : Dec P t k enc fit) (hT : StrT P t = true) (hv : Value.okWide P w r base t v) (h : DataW.Trod en P w 0 spare held t v d ps) (hwt : ∀ n ∈ d.weights P t, n ≤ reachBytes) : ∃ a, fit a ∧ Shr (fun _ => False) w v (.agg (enc a)) := by
 obtain ⟨fuel, hf⟩ := h
 have : ∃ fs, P.underlying t = some (.struct fs) := by
  unfold StrT at hT
  split at hT
  · rename_i fs hfs; exact ⟨fs, hfs⟩
  · cases hT
 obtain ⟨fs, hfs⟩ := this
 obtain ⟨cs, rfl, hsz⟩ := okWide_struct hfs hv
 obtain ⟨a, h1, h2, h3⟩ := D.dec en w spare held fuel _ _ hf hwt
 refine ⟨a, h1, ?_⟩
 have := Shr.agg (M := fun _ => False) (w := w) cs.toList (enc a) (by rw [D.len a]; exact h2) h3
 simpa using this
end
theorem trodAll_back {H : Type} {enc : TypeId × Value → H} {P : Program} (hl : laidOutB P = true) {W W' : World} (hb : Below W.heap.size W W') : ∀ {ts : List TypeId} {vs : List Value} {ds : List (DataW H)} {ps : List MemPlace}, (ts.all fun t => P.readableRec t && decide (t < P.types.size)) = true →
 DataW.TrodAll enc P W 0 (fun _ => true) true ts vs ds ps → DataW.TrodAll enc P W' 0 (fun b => decide (b < W.heap.size)) true ts vs ds ps
 | [], [], [], ps, _, h => h
 | t :: ts, v :: vs, d :: ds, ps, ht, ⟨p, q, h1, h2, h3⟩ => by
   rw [List.all_cons, Bool.and_eq_true, Bool.and_eq_true] at ht
   refine ⟨p, q, Below.trod hl ht.1.1 (of_decide_eq_true ht.1.2) h1 hb ?_, trodAll_back hl hb ht.2 h2, h3⟩
   obtain ⟨m, hm⟩ := h1
   exact DataW.trod_lt m _ _ _ hm
theorem AF.law {P : Program} {f : FuncId} {ps : List PV} (hA : AF P f ps (· = .val (.bool true))) {W : World} {vs : List Value} (hl : vs.length = ps.length) (hv : ∀ (i : Nat) (v : Value) (p : PV), vs[i]? = some v → ps[i]? = some p → Shr (fun _ => False) W v p) (hT : TabW W (fun _ => False) (fun _ => False)) :
 Calls P f vs.toArray W fun e w' => e = .returned (.bool true) ∧ Below W.heap.size W w' :=
 (hA (fun _ => False) W vs ⟨fun _ h => h.elim, fun _ => hT⟩ hl hv).mono fun e w' ⟨v, p, F, h1, h2, h3, h4, _⟩ => by
   subst h2
   have := (h4.sh rfl).vOf
   subst this
   exact ⟨h1, h3⟩
end
open Go.RowKit Go.Cb Go.ChangeShapes Go.WideShapes Go.ChangeAt
section
variable {P : Program} {t : TypeId}
theorem dec_struct5 {α β γ δ ε : Type} {f0 f1 f2 f3 f4 : Field} {k0 k1 k2 k3 k4 : Nat} {enc0 : α → List PV} {enc1 : β → List PV} {enc2 : γ → List PV} {enc3 : δ → List PV} {enc4 : ε → List PV} {fit0 : α → Prop} {fit1 : β → Prop} {fit2 : γ → Prop} {fit3 : δ → Prop} {fit4 : ε → Prop} (ht : P.underlying t = some (.struct #[f0, f1, f2, f3, f4])) (hs : P.cellsOf t = k0 + k1 + k2 + k3 + k4)
 (D0 : Dec P f0.type k0 enc0 fit0) (D1 : Dec P f1.type k1 enc1 fit1) (D2 : Dec P f2.type k2 enc2 fit2) (D3 : Dec P f3.type k3 enc3 fit3) (D4 : Dec P f4.type k4 enc4 fit4) (ho0 : f0.offset = 0) (ho1 : f1.offset = k0) (ho2 : f2.offset = k0 + k1) (ho3 : f3.offset = k0 + k1 + k2) (ho4 : f4.offset = k0 + k1 + k2 + k3) :
 Dec P t (k0 + k1 + k2 + k3 + k4) (fun x : α × β × γ × δ × ε => enc0 x.1 ++ (enc1 x.2.1 ++ (enc2 x.2.2.1 ++ (enc3 x.2.2.2.1 ++ enc4 x.2.2.2.2)))) (fun x => fit0 x.1 ∧ fit1 x.2.1 ∧ fit2 x.2.2.1 ∧ fit3 x.2.2.2.1 ∧ fit4 x.2.2.2.2) where
 size := hs
 len := fun x => by rw [List.length_append, List.length_append, List.length_append, List.length_append, D0.len, D1.len, D2.len, D3.len, D4.len]; omega
 dec := fun e w spare held fuel cs x h => by
  intro hwt
  obtain ⟨xs, n, _, rfl, hlen, hxl, hf⟩ := DataW.trod_struct ht h
  simp only [DataW.weights, ht] at hwt
  have g0 := hf 0 f0 rfl
  have g1 := hf 1 f1 rfl
  have g2 := hf 2 f2 rfl
  have g3 := hf 3 f3 rfl
  have g4 := hf 4 f4 rfl
  match xs, hxl with
  | [y0, y1, y2, y3, y4], _ =>
  rw [ho0] at g0
  rw [ho1] at g1
  rw [ho2] at g2
  rw [ho3] at g3
  rw [ho4] at g4
  obtain ⟨a, ha, A⟩ := dec_field D0 g0 (fun n hn => hwt n (weightsEach_mem P 0 (by simp) (by simp) hn))
  obtain ⟨b, hb, B⟩ := dec_field D1 g1 (fun n hn => hwt n (weightsEach_mem P 1 (by simp) (by simp) hn))
  obtain ⟨c, hc, C⟩ := dec_field D2 g2 (fun n hn => hwt n (weightsEach_mem P 2 (by simp) (by simp) hn))
  obtain ⟨d, hd, D⟩ := dec_field D3 g3 (fun n hn => hwt n (weightsEach_mem P 3 (by simp) (by simp) hn))
  obtain ⟨e', he, E⟩ := dec_field D4 g4 (fun n hn => hwt n (weightsEach_mem P 4 (by simp) (by simp) hn))
  refine ⟨(a, b, c, d, e'), ⟨ha, hb, hc, hd, he⟩, by rw [hlen, hs], split_at (D0.len a) (fun i v p hv hp => A i v p (by rw [Nat.zero_add]; exact hv) hp) fun i v p hv hp => ?_⟩
  refine split_at (cs := cs.drop k0) (D1.len b) (fun i v p hv hp => B i v p (by rw [List.getElem?_drop] at hv; exact hv) hp) (fun i v p hv hp => ?_) i v p (by rw [List.getElem?_drop]; exact hv) hp
  refine split_at (cs := cs.drop (k0 + k1)) (D2.len c) (fun i v p hv hp => C i v p (by rw [List.getElem?_drop] at hv; exact hv) hp) (fun i v p hv hp => ?_) i v p (by rw [List.getElem?_drop] at hv ⊢; rw [Nat.add_assoc]; exact hv) hp
  exact split_at (cs := cs.drop (k0 + k1 + k2)) (D3.len d) (fun i v p hv hp => D i v p (by rw [List.getElem?_drop] at hv; exact hv) hp) (fun i v p hv hp => E i v p (by rw [List.getElem?_drop, ← Nat.add_assoc] at hv; exact hv) hp) i v p (by rw [List.getElem?_drop] at hv ⊢; rw [Nat.add_assoc]; exact hv) hp
end
end Go.En
namespace Go.Proofs.YtgigclnaicbiaaaDoor
open Go.RowKit Go.Cb Go.En Go.ChangeShapes Go.WideShapes Go.ChangeAt
set_option linter.all false
set_option maxRecDepth 100000
def fitI (n : Int) : Prop := -9223372036854775808 ≤ n ∧ n ≤ 9223372036854775807
def fitL (l : List Int) : Prop := l.length ≤ 140737488355328 ∧ ∀ n ∈ l, fitI n
def fitM (m : Mv) : Prop := fitI m.src ∧ fitI m.dst ∧ fitI m.sym
def fitMs (l : List Mv) : Prop := l.length ≤ 140737488355328 ∧ ∀ m ∈ l, fitM m
def fitA (a : Aut) : Prop := fitI a.n ∧ fitI a.syms ∧ fitL a.start ∧ fitL a.fin ∧ fitMs a.moves
theorem dInt : Dec Tryd.prog 3 1 (fun n : Int => [pInt n]) fitI := dec_int Tryd.underlying3 (by kernel_rfl)
theorem dInts : Dec Tryd.prog 22 1 (fun l => [pInts l]) fitL :=
 dec_map id (dec_slice Tryd.underlying22 (by kernel_rfl) (by decide) (Nat.le_of_ble_eq_true (by kernel_rfl)) dInt) (fun _ => rfl) (fun l => by show [PV.sl l.length (l.map pInt)] = _; rw [flat_one]) (fun _ h => h)
theorem dMv : Dec Tryd.prog 40 3 cMv fitM :=
 dec_map (fun x : Int × Int × Int => (⟨x.1, x.2.1, x.2.2⟩ : Mv)) (dec_struct3 Tryd.underlying40 (by kernel_rfl) dInt dInt dInt rfl rfl rfl) (fun _ => rfl) (fun _ => rfl) (fun _ h => h)
theorem dMvs : Dec Tryd.prog 23 1 (fun l => [pMvs l]) fitMs :=
 dec_map id (dec_slice Tryd.underlying23 (by kernel_rfl) (by decide) (Nat.le_of_ble_eq_true (by kernel_rfl)) dMv) (fun _ => rfl) (fun _ => rfl) (fun _ h => h)
theorem dAut : Dec Tryd.prog 25 5 cAut fitA :=
 dec_map (fun x : Int × Int × List Int × List Int × List Mv => (⟨x.1, x.2.1, x.2.2.1, x.2.2.2.1, x.2.2.2.2⟩ : Aut)) (dec_struct5 Tryd.underlying25 (by kernel_rfl) dInt dInt dInts dInts dMvs rfl rfl rfl rfl rfl) (fun _ => rfl) (fun _ => rfl) (fun _ h => h)
def autR : Except Int Aut → Aut
 | .ok a => a
 | .error _ => autZ
def errR : Except Int Aut → Int
 | .ok _ => 0
 | .error e => e
theorem resA_R (x : Except Int Aut) : resA x = .tup [pAut (autR x), pInt (errR x)] := by cases x <;> rfl
theorem resW_R {P : Program} {f : Nat} {ps : List PV} {x : Except Int Aut} (h : AF P f ps (· = resW x)) : AF P f ps (· = .tup [pAut (autR x), pInt (errR x)]) := by
 rw [← resA_R]; exact resW_A h
theorem r07Same_self (a : Aut) (h : a.moves.length ≤ 20000) : AF Tryd.prog 8 [pAut a, pAut a] (· = pBool true) := (r07Same_e a a (by omega) (by omega)).mono fun p hp => by rw [hp, decide_eq_true rfl]
open Go.RowKit Go.Cb Go.En
def runT (t : Tab) (x : Nat) (w : List Nat) : Nat := w.foldl (toT t) x
def accT (t : Tab) (x : Nat) (w : List Nat) : Bool := (t.fin[runT t x w]?).getD false
def WordN (m : Nat) (w : List Nat) : Prop := ∀ c ∈ w, c < m
def SameL (t : Tab) (x : Nat) (t' : Tab) (x' : Nat) : Prop := ∀ w, WordN t.m w → accT t x w = accT t' x' w
theorem accT_cons (t : Tab) (x c : Nat) (w : List Nat) : accT t x (c :: w) = accT t (toT t x c) w := rfl
theorem SameL.step {t t' : Tab} {x x' s : Nat} (h : SameL t x t' x') (hs : s < t.m) : SameL t (toT t x s) t' (toT t' x' s) := fun w hw => by
 have := h (s :: w) fun c hc => by
  rcases List.mem_cons.1 hc with rfl | hc
  · exact hs
  · exact hw c hc
 rw [accT_cons, accT_cons] at this; exact this
theorem SameL.symm {t t' : Tab} {x x' : Nat} (hm : t.m = t'.m) (h : SameL t x t' x') : SameL t' x' t x := fun w hw => (h w (by rw [hm]; exact hw)).symm
theorem SameL.trans {t t' t'' : Tab} {x x' x'' : Nat} (hm : t.m = t'.m) (h : SameL t x t' x') (h' : SameL t' x' t'' x'') : SameL t x t'' x'' := fun w hw => (h w hw).trans (h' w (by rw [← hm]; exact hw))
section
variable {t : Tab}
theorem row_map (h : TOk t) {c : Nat → Nat} {x : Nat} (hx : x < t.rows.length) : ((t.rows[x]?).getD []).map c = (List.range t.m).map fun s => c (toT t x s) := by
 obtain ⟨r, hr⟩ := get_some hx
 have hl := h.rl r (List.mem_of_getElem? hr)
 rw [hr]
 refine List.ext_getElem? fun s => ?_
 show (r.map c)[s]? = _
 rw [List.getElem?_map, List.getElem?_map]
 by_cases hs : s < t.m
 · obtain ⟨n, hn⟩ := get_some (show s < r.length by omega)
   rw [hn, List.getElem?_range hs]
   show some (c n) = some (c (toT t x s))
   rw [toT_at hr hn]
 · rw [List.getElem?_eq_none (by omega), List.getElem?_eq_none (by rw [List.length_range]; omega)]; rfl
theorem map_range_eq {m : Nat} {f g : Nat → Nat} : (List.range m).map f = (List.range m).map g ↔ ∀ s, s < m → f s = g s := by
 constructor
 · intro h s hs
   have h2 : ((List.range m).map f)[s]? = ((List.range m).map g)[s]? := by rw [h]
   rw [List.getElem?_map, List.getElem?_map, List.getElem?_range hs] at h2
   simpa using h2
 · intro h
   exact List.map_congr_left fun s hs => h s (List.mem_range.1 hs)
theorem key_iff (h : TOk t) {c : Nat → Nat} {x y : Nat} (hx : x < t.rows.length) (hy : y < t.rows.length) : keyC t.rows c x = keyC t.rows c y ↔ c x = c y ∧ ∀ s, s < t.m → c (toT t x s) = c (toT t y s) := by
 unfold keyC
 rw [row_map h hx, row_map h hy, List.cons.injEq, map_range_eq]
theorem next_iff {c : Nat → Nat} {x y : Nat} (hx : x < t.rows.length) (hy : y < t.rows.length) : nextC t.rows c x = nextC t.rows c y ↔ keyC t.rows c x = keyC t.rows c y := by
 constructor
 · intro h
   obtain ⟨z, h1, h2⟩ := posK_at (fstK_pos (k := keyC t.rows c) hx).2
   obtain ⟨z', h3, h4⟩ := posK_at (fstK_pos (k := keyC t.rows c) hy).2
   have h5 : posK id (fstK (keyC t.rows c) t.rows.length) (keyC t.rows c x) = posK id (fstK (keyC t.rows c) t.rows.length) (keyC t.rows c y) := h
   rw [h5, h3] at h1
   cases h1
   exact h2.symm.trans h4
 · intro h
   unfold nextC; rw [h]
structure CL (t : Tab) (c : Nat → Nat) : Prop where
 co : ∀ x y, x < t.rows.length → y < t.rows.length → SameL t x t y → c x = c y
 fi : ∀ x y, x < t.rows.length → y < t.rows.length → c x = c y → t.fin[x]? = t.fin[y]?
theorem CL.next (h : TOk t) {c : Nat → Nat} (hc : CL t c) : CL t (nextC t.rows c) :=
 ⟨fun x y hx hy hl => (next_iff hx hy).2 ((key_iff h hx hy).2 ⟨hc.co x y hx hy hl, fun s hs => hc.co _ _ (toT_lt h) (toT_lt h) (hl.step hs)⟩),
  fun x y hx hy he => hc.fi x y hx hy ((key_iff h hx hy).1 ((next_iff hx hy).1 he)).1⟩
structure CS (t : Tab) (c : Nat → Nat) : Prop extends CL t c where
 st : ∀ x y s, x < t.rows.length → y < t.rows.length → s < t.m → c x = c y → c (toT t x s) = c (toT t y s)
theorem CS.lang (h : TOk t) {c : Nat → Nat} (hc : CS t c) {x y : Nat} (hx : x < t.rows.length) (hy : y < t.rows.length) (he : c x = c y) : SameL t x t y := fun w => by
 induction w generalizing x y with
 | nil =>
   intro _
   have := hc.fi x y hx hy he
   show (t.fin[x]?).getD false = (t.fin[y]?).getD false
   rw [this]
 | cons s w ih =>
   intro hw
   rw [accT_cons, accT_cons]
   exact ih (toT_lt h) (toT_lt h) (hc.st x y s hx hy (hw s (List.mem_cons_self ..)) he) fun c hc => hw c (List.mem_cons_of_mem _ hc)
theorem full_nodup : ∀ {k : Nat} {L : List Nat}, (∀ v, v < k → v ∈ L) → L.length = k → L.Nodup := fun {k} => by
 induction k with
 | zero => intro L _ hl; rw [List.eq_nil_of_length_eq_zero hl]; exact List.nodup_nil
 | succ k ih =>
   intro L hL hl
   have hm := hL k (by omega)
   obtain ⟨A, B, rfl⟩ := List.append_of_mem hm
   have h1 : (A ++ B).Nodup := ih (fun v hv => by
    have := hL v (by omega)
    rcases List.mem_append.1 this with h | h
    · exact List.mem_append_left _ h
    · rcases List.mem_cons.1 h with h | h
      · omega
      · exact List.mem_append_right _ h) (by simp only [List.length_append, List.length_cons] at hl ⊢; omega)
   have h2 : k ∉ A ++ B := fun h3 => by
    have h4 : ∀ v, v < k + 1 → v ∈ A ++ B := fun v hv => by
     by_cases e : v = k
     · rw [e]; exact h3
     · have := hL v hv
       rcases List.mem_append.1 this with h | h
       · exact List.mem_append_left _ h
       · rcases List.mem_cons.1 h with h | h
         · exact absurd h e
         · exact List.mem_append_right _ h
    have h5 := nodupN_len (n := k + 1) (L := List.range (k + 1)) List.nodup_range fun s hs => List.mem_range.1 hs
    have key : ∀ (M : List Nat) (n : Nat), M.Nodup → (∀ v, v < n → v ∈ M) → n ≤ M.length := fun M n _ hv => by
     induction n generalizing M with
     | zero => exact Nat.zero_le _
     | succ n ih2 =>
       have h6 := ih2 (M.erase n) ((by assumption : M.Nodup).erase _) fun v hv' => (List.mem_erase_of_ne (by omega)).2 (hv v (by omega))
       rw [List.length_erase_of_mem (hv n (by omega))] at h6
       have := List.length_pos_of_mem (hv n (by omega))
       omega
    have := key _ _ h1 h4
    simp only [List.length_append, List.length_cons] at hl this
    omega
   have hp : (A ++ k :: B).Perm (k :: (A ++ B)) := List.perm_middle
   rw [hp.nodup_iff, List.nodup_cons]
   exact ⟨h2, h1⟩
theorem nodup_inj {α β : Type} {f : α → β} : ∀ {l : List α}, (l.map f).Nodup → ∀ x ∈ l, ∀ y ∈ l, f x = f y → x = y
 | [], _, x, hx, _, _, _ => by cases hx
 | z :: l, h, x, hx, y, hy, e => by
   rw [List.map_cons, List.nodup_cons] at h
   rcases List.mem_cons.1 hx with h1 | h1
   · rcases List.mem_cons.1 hy with h2 | h2
     · rw [h1, h2]
     · exact absurd (List.mem_map.2 ⟨y, h2, by rw [← e, h1]⟩) h.1
   · rcases List.mem_cons.1 hy with h2 | h2
     · exact absurd (List.mem_map.2 ⟨x, h1, by rw [e, h2]⟩) h.1
     · exact nodup_inj h.2 x h1 y h2 e
theorem stop_same {c : Nat → Nat} {k : Nat} (hk : COk t.rows.length c k) (he : cntC t.rows c = k) {x y : Nat} (hx : x < t.rows.length) (hy : y < t.rows.length) (hxy : c x = c y) : keyC t.rows c x = keyC t.rows c y := by
 have h1 : ∀ v, v < k → v ∈ (fstK (keyC t.rows c) t.rows.length).map fun l => l.headD 0 := fun v hv => by
  obtain ⟨s, hs, rfl⟩ := hk.hit v hv
  exact List.mem_map.2 ⟨keyC t.rows c s, fstK_mem.2 ⟨s, hs, rfl⟩, rfl⟩
 have h2 := full_nodup h1 (by rw [List.length_map]; exact he)
 exact nodup_inj h2 _ (fstK_mem.2 ⟨x, hx, rfl⟩) _ (fstK_mem.2 ⟨y, hy, rfl⟩) hxy
theorem clsIt_cs (h : TOk t) : ∀ {f : Nat} {c : Nat → Nat} {k : Nat}, COk t.rows.length c k → CL t c → t.rows.length < f + k → CS t (clsIt t.rows f c k)
 | 0, c, k, hk, _, hf => by have := hk.le; omega
 | f + 1, c, k, hk, hc, hf => by
   rw [clsIt]
   split
   · rename_i he
     refine ⟨hc.next h, fun x y s hx hy hs hxy => ?_⟩
     have h1 := ((key_iff h hx hy).1 ((next_iff hx hy).1 hxy)).2 s hs
     exact (next_iff (toT_lt h) (toT_lt h)).2 (stop_same hk he (toT_lt h) (toT_lt h) h1)
   · rename_i he
     have := hk.grow
     exact clsIt_cs h hk.next (hc.next h) (by omega)
theorem finC_cl (h : TOk t) : CL t (finC t.fin) := by
 refine ⟨fun x y hx hy hl => ?_, fun x y hx hy he => ?_⟩
 · have := hl [] fun c hc => by cases hc
   have h1 : (t.fin[x]?).getD false = (t.fin[y]?).getD false := this
   unfold finC; rw [h1]
 · have hf := h.fl
   obtain ⟨b, hb⟩ := get_some (show x < t.fin.length by omega)
   obtain ⟨b', hb'⟩ := get_some (show y < t.fin.length by omega)
   unfold finC at he
   rw [hb, hb'] at he ⊢
   cases b <;> cases b' <;> simp_all
theorem cls_cs (h : TOk t) : CS t (clsT t) := by
 unfold clsT
 exact clsIt_cs h (COk.start t.fin _) (finC_cl h) (by omega)
theorem cls_iff (h : TOk t) {x y : Nat} (hx : x < t.rows.length) (hy : y < t.rows.length) : clsT t x = clsT t y ↔ SameL t x t y :=
 ⟨fun e => (cls_cs h).lang h hx hy e, fun e => (cls_cs h).co x y hx hy e⟩
end
section
variable {t t' : Tab}
theorem least_one (h : TOk t) (h' : TOk t') (hm : t.m = t'.m) (hL : SameL t 0 t' 0) (hle : t.rows.length ≤ t'.rows.length) : leastT t = leastT t' := by
 obtain ⟨⟨o, rows⟩, h1⟩ := min_all h
 have hF := fin_of h h1
 have h2 : (minW t).upto 0 t'.rows.length = some (o, rows) := by
  have hc : o.length ≤ t.rows.length := hF.ok.cap
  have h3 := Srch.upto_stop h1 hc (t'.rows.length - t.rows.length)
  have e : (minW t).cap + (t'.rows.length - t.rows.length) = t'.rows.length := by show t.rows.length + _ = _; omega
  rw [e] at h3; exact h3
 obtain ⟨o', h3, h4⟩ := Srch.sim (W := minW t) (W' := minW t') (R := fun x y => x < t.rows.length ∧ y < t'.rows.length ∧ SameL t x t' y) hm hle
  (fun x x' y y' hx hx' => by
    show clsT t x = clsT t x' ↔ clsT t' y = clsT t' y'
    rw [cls_iff h hx.1 hx'.1, cls_iff h' hx.2.1 hx'.2.1]
    constructor
    · exact fun e => ((hx.2.2.symm hm).trans hm.symm e).trans hm.symm hx'.2.2
    · exact fun e => (hx.2.2.trans hm e).trans hm (hx'.2.2.symm hm))
  (fun i x y s hx hs => ⟨toT_lt h, toT_lt h', hx.2.2.step hs⟩) ⟨h.pos, h'.pos, hL⟩ h2
 have h5 : (minW t').all 0 = some (o', rows) := h3
 unfold leastT
 rw [h1, h5]
 show (if 20000 < (movesT rows).length then none else some (autQ t (o, rows))) = (if 20000 < (movesT rows).length then none else some (autQ t' (o', rows)))
 have e : autQ t (o, rows) = autQ t' (o', rows) := by
  unfold autQ
  dsimp only
  rw [h4.1, hm]
  congr 1
  refine listedL_congr2 _ fun i hi => ?_
  obtain ⟨x, hx⟩ := get_some (show i < o.length by rw [h4.1]; exact hi)
  obtain ⟨y, hy⟩ := get_some hi
  have h6 := (h4.2 i x y hx hy).2.2 [] fun c hc => by cases hc
  unfold finAt
  rw [hx, hy]
  exact h6
 rw [e]
theorem least_uniq (h : TOk t) (h' : TOk t') (hm : t.m = t'.m) (hL : SameL t 0 t' 0) : leastT t = leastT t' := by
 rcases Nat.le_total t.rows.length t'.rows.length with h1 | h1
 · exact least_one h h' hm hL h1
 · exact (least_one h' h hm.symm (hL.symm hm) h1).symm
end
def runL (a : Aut) (w : List Int) : List Int := w.foldl (fun S c => nextL a c S) (closL a a.start)
def wI (w : List Nat) : List Int := w.map fun c : Nat => (c : Int)
def stepL (a : Aut) (S : List Int) (w : List Int) : List Int := w.foldl (fun S c => nextL a c S) S
def accA (a : Aut) (w : List Int) : Bool := accB a (runL a w)
theorem accA_def (a : Aut) (w : List Int) : accA a w = accB a (stepL a (closL a a.start) w) := rfl
theorem sub_lang_at {a : Aut} (h : AOk a) {o : List (List Int)} {rows : List (List Nat)} (hu : (subW a).all (closL a a.start) = some (o, rows)) : ∀ (w : List Nat) (i : Nat) (S : List Int), WordN a.syms.toNat w → o[i]? = some S → accT ⟨a.syms.toNat, rows, o.map (accB a)⟩ i w = accB a (stepL a S (wI w)) := by
 obtain ⟨h2, h3, h4⟩ := sub_ok h hu
 have hcap : o.length ≤ 2000 := h2.cap
 have h5 := h4 hcap
 intro w
 induction w with
 | nil =>
   intro i S _ hi
   show ((o.map (accB a))[i]?).getD false = accB a S
   rw [List.getElem?_map, hi]; rfl
 | cons c w ih =>
   intro i S hw hi
   have hc : c < a.syms.toNat := hw c (List.mem_cons_self ..)
   obtain ⟨r, hr⟩ := get_some (show i < rows.length by have := lt_of_get hi; omega)
   have hl : r.length = a.syms.toNat := h2.len r (List.mem_of_getElem? hr)
   obtain ⟨n, hn⟩ := get_some (show c < r.length by omega)
   obtain ⟨h6, h7⟩ := h2.to i S r c n hi hr hn
   obtain ⟨T, hT, hT2⟩ := posK_at (f := (subW a).key) (l := o) (k := (subW a).key ((subW a).step i S c)) (by rw [h7]; exact h6)
   rw [h7] at hT
   have hT3 : T = nextL a (c : Nat) S := hT2
   rw [accT_cons, toT_at hr hn, ih n T (fun c hc => hw c (List.mem_cons_of_mem _ hc)) hT, hT3]
   rfl
theorem sub_lang {a : Aut} (h : AOk a) {t : Tab} (ht : subT a = some t) {w : List Nat} (hw : WordN a.syms.toNat w) : accT t 0 w = accA a (wI w) := by
 unfold subT at ht
 obtain ⟨⟨o, rows⟩, h1, rfl⟩ := Option.map_eq_some_iff.1 ht
 obtain ⟨h2, _, _⟩ := sub_ok h h1
 exact sub_lang_at h h1 w 0 _ hw h2.zero
theorem sub_m {a : Aut} {t : Tab} (ht : subT a = some t) : t.m = a.syms.toNat := by
 unfold subT at ht
 obtain ⟨q, _, rfl⟩ := Option.map_eq_some_iff.1 ht
 rfl
section
variable {t : Tab} {o : List Nat} {rows : List (List Nat)}
theorem autQ_row (h : Fin t o rows) {i s : Nat} (hi : i < o.length) (hs : s < t.m) : ∃ (r : List Nat) (n x y : Nat), rows[i]? = some r ∧ r[s]? = some n ∧ o[i]? = some x ∧ o[n]? = some y ∧ clsT t y = clsT t (toT t x s) := by
 obtain ⟨r, hr⟩ := get_some (show i < rows.length by rw [h.len]; exact hi)
 have hrl : r.length = t.m := h.ok.len r (List.mem_of_getElem? hr)
 obtain ⟨n, hn⟩ := get_some (show s < r.length by omega)
 obtain ⟨x, hx⟩ := get_some hi
 obtain ⟨h6, h7⟩ := h.ok.to i x r s n hx hr hn
 obtain ⟨y, hy, hy2⟩ := posK_at (f := (minW t).key) (l := o) (k := (minW t).key ((minW t).step i x s)) (by rw [h7]; exact h6)
 rw [h7] at hy
 exact ⟨r, n, x, y, hr, hn, hx, hy, hy2⟩
theorem mem_movesT2 {i s n : Nat} {r : List Nat} (h1 : rows[i]? = some r) (h2 : r[s]? = some n) : (⟨(i : Nat), (n : Nat), (s : Nat)⟩ : Mv) ∈ movesT rows := by
 unfold movesT
 refine List.mem_flatMap.2 ⟨(r, i), List.mem_zipIdx_iff_getElem?.2 h1, ?_⟩
 unfold rowMv
 exact List.mem_map.2 ⟨(n, s), List.mem_zipIdx_iff_getElem?.2 h2, rfl⟩
theorem autQ_clos (hok : AOk (autQ t (o, rows))) {i : Nat} (hi : i < o.length) {l : List Int} (hl : ∀ x, x ∈ l ↔ x = (i : Int)) : closL (autQ t (o, rows)) l = [(i : Int)] := by
 have hin : ∀ s ∈ l, 0 ≤ s ∧ s < (autQ t (o, rows)).n := fun s hs => by
  rw [(hl s).1 hs]
  exact ⟨by omega, by show ((i : Nat) : Int) < (o.length : Nat); omega⟩
 refine srt_ext (closL_srt hok.mi hin) (List.pairwise_singleton ..) fun x => ?_
 rw [closL_mem hok.mi hin, List.mem_singleton]
 constructor
 · intro h
   induction h with
   | base h => exact (hl _).1 h
   | step _ hm hs hd ih =>
     obtain ⟨_, s, _, _, _, _, rfl⟩ := mem_movesT hm
     have h1 : ((s : Nat) : Int) = -1 := hd
     omega
 · intro h
   subst h
   exact .base ((hl _).2 rfl)
theorem autQ_next (h : Fin t o rows) (hok : AOk (autQ t (o, rows))) {i s n : Nat} {r : List Nat} (hr : rows[i]? = some r) (hn : r[s]? = some n) (hno : n < o.length) : nextL (autQ t (o, rows)) (s : Nat) [(i : Int)] = [(n : Int)] := by
 have hi : i < o.length := by rw [← h.len]; exact lt_of_get hr
 refine autQ_clos hok hno fun x => ?_
 have hin : ∀ s ∈ [(i : Int)], 0 ≤ s ∧ s < (autQ t (o, rows)).n := fun s hs => by
  rw [List.mem_singleton.1 hs]
  exact ⟨by omega, by show ((i : Nat) : Int) < (o.length : Nat); omega⟩
 rw [leads_mem hin]
 constructor
 · rintro ⟨m, hm, h1, h2, rfl⟩
   obtain ⟨i', s', n', r', h3, h4, rfl⟩ := mem_movesT hm
   have h1 : ((i' : Nat) : Int) = i := List.mem_singleton.1 h1
   have h2 : ((s' : Nat) : Int) = s := h2
   have e1 : i' = i := by omega
   have e2 : s' = s := by omega
   subst e1 e2
   rw [hr] at h3; cases h3
   rw [hn] at h4; cases h4
   rfl
 · rintro rfl
   exact ⟨_, mem_movesT2 hr hn, List.mem_singleton.2 rfl, rfl, rfl⟩
theorem autQ_acc (h : Fin t o rows) {i x : Nat} (hx : o[i]? = some x) : accB (autQ t (o, rows)) [(i : Int)] = (t.fin[x]?).getD false := by
 show (finB (autQ t (o, rows)) (i : Int) || false) = _
 rw [Bool.or_false, finB_Q (lt_of_get hx)]
 unfold finAt; rw [hx]; rfl
theorem autQ_at (ht : TOk t) (h : Fin t o rows) (hok : AOk (autQ t (o, rows))) : ∀ (w : List Nat) (i x : Nat), WordN t.m w → o[i]? = some x → accB (autQ t (o, rows)) (stepL (autQ t (o, rows)) [(i : Int)] (wI w)) = accT t x w := by
 intro w
 induction w with
 | nil => intro i x _ hx; exact autQ_acc h hx
 | cons c w ih =>
   intro i x hw hx
   obtain ⟨r, n, x', y, hr, hn, hx', hy, hc⟩ := autQ_row h (lt_of_get hx) (hw c (List.mem_cons_self ..))
   rw [hx] at hx'; cases hx'
   show accB _ (stepL _ (nextL _ (c : Nat) [(i : Int)]) (wI w)) = accT t (toT t x c) w
   have hw' : WordN t.m w := fun c hc => hw c (List.mem_cons_of_mem _ hc)
   rw [autQ_next h hok hr hn (lt_of_get hy), ih n y hw' hy]
   exact (cls_iff ht (h.ok.p y (List.mem_of_getElem? hy)) (toT_lt ht)).1 hc w hw'
theorem autQ_start (h : Fin t o rows) (hok : AOk (autQ t (o, rows))) : closL (autQ t (o, rows)) (autQ t (o, rows)).start = [((0 : Nat) : Int)] := autQ_clos hok h.pos fun x => List.mem_singleton
theorem autQ_lang (ht : TOk t) (h : Fin t o rows) (hok : AOk (autQ t (o, rows))) {w : List Nat} (hw : WordN t.m w) : accA (autQ t (o, rows)) (wI w) = accT t 0 w := by
 rw [accA_def, autQ_start h hok]
 exact autQ_at ht h hok w 0 0 hw h.ok.zero
theorem autQ_idem (ht : TOk t) (hu : (minW t).all 0 = some (o, rows)) (hm : (movesT rows).length ≤ 20000) : redX (autQ t (o, rows)) = .ok (autQ t (o, rows)) := by
 have h := fin_of ht hu
 have hok := autQ_aok ht h hm
 have hn1 := ht.n1
 have hcap : o.length ≤ t.rows.length := h.ok.cap
 have h2 : (minW t).upto 0 2000 = some (o, rows) := by
  have h3 := Srch.upto_stop hu hcap (2000 - t.rows.length)
  have e : (minW t).cap + (2000 - t.rows.length) = 2000 := by show t.rows.length + _ = _; omega
  rw [e] at h3; exact h3
 have hsy : (autQ t (o, rows)).syms.toNat = t.m := Int.toNat_natCast _
 obtain ⟨o', h3, h4⟩ := Srch.sim (W := minW t) (W' := subW (autQ t (o, rows))) (R := fun x S => x < t.rows.length ∧ ∃ (i z : Nat), S = [(i : Int)] ∧ o[i]? = some z ∧ clsT t z = clsT t x) hsy.symm hn1
  (fun x x' S S' ⟨hx, i, z, e, hz, hc⟩ ⟨hx', i', z', e', hz', hc'⟩ => by
    show clsT t x = clsT t x' ↔ S = S'
    rw [e, e', ← hc, ← hc']
    constructor
    · intro e2
      have h5 : posK (minW t).key o (clsT t z) = i := posK_idx h.ok.nd hz
      have h6 : posK (minW t).key o (clsT t z') = i' := posK_idx h.ok.nd hz'
      rw [← h5, ← h6, e2]
    · intro e2
      have : i = i' := by have := (List.cons.inj e2).1; omega
      subst this
      rw [hz] at hz'; cases hz'; rfl)
  (fun i x S s ⟨hx, j, z, e, hz, hc⟩ hs => by
    have hs : s < t.m := hs
    obtain ⟨r, n, z', y, hr, hn, hz', hy, hc2⟩ := autQ_row h (lt_of_get hz) hs
    rw [hz] at hz'; cases hz'
    refine ⟨toT_lt ht, n, y, ?_, hy, ?_⟩
    · show nextL _ (s : Nat) S = _
      rw [e, autQ_next h hok hr hn (lt_of_get hy)]
    · rw [hc2]
      exact (cls_cs ht).st z x s (h.ok.p z (List.mem_of_getElem? hz)) hx hs hc)
  (show (0 : Nat) < t.rows.length ∧ _ from ⟨ht.pos, 0, 0, autQ_start h hok, h.ok.zero, rfl⟩) h2
 have h5 : subT (autQ t (o, rows)) = some ⟨t.m, rows, o'.map (accB (autQ t (o, rows)))⟩ := by
  unfold subT
  rw [show (subW (autQ t (o, rows))).all (closL (autQ t (o, rows)) (autQ t (o, rows)).start) = some (o', rows) from h3, hsy]
  rfl
 have h6 := sub_tok hok h5
 have h7 : leastT ⟨t.m, rows, o'.map (accB (autQ t (o, rows)))⟩ = leastT t := least_uniq h6 ht rfl fun w hw => by
  have hw : WordN t.m w := hw
  rw [sub_lang hok h5 (by rw [hsy]; exact hw), autQ_lang ht h hok hw]
 unfold redX
 rw [h5]
 dsimp only
 rw [h7]
 unfold leastT
 rw [hu]
 show lim (if 20000 < (movesT rows).length then none else some (autQ t (o, rows))) = _
 rw [if_neg (by omega)]; rfl
end
theorem redX_uniq {a b A B : Aut} (h : AOk a) (h' : AOk b) (hs : a.syms = b.syms) (hL : ∀ w, WordN a.syms.toNat w → accA a (wI w) = accA b (wI w)) (hr : redX a = .ok A) (hr' : redX b = .ok B) : A = B := by
 obtain ⟨t, o, rows, hs1, hT, hu, hF, rfl, hm⟩ := redX_ok h hr
 obtain ⟨t', o', rows', hs1', hT', hu', hF', rfl, hm'⟩ := redX_ok h' hr'
 have h1 : leastT t = leastT t' := least_uniq hT hT' (by rw [sub_m hs1, sub_m hs1', hs]) fun w hw => by
  rw [sub_m hs1] at hw
  rw [sub_lang h hs1 hw, sub_lang h' hs1' (by rw [← hs]; exact hw)]
  exact hL w hw
 unfold leastT at h1
 rw [hu, hu'] at h1
 have h2 : (if 20000 < (movesT rows).length then none else some (autQ t (o, rows))) = (if 20000 < (movesT rows').length then none else some (autQ t' (o', rows'))) := h1
 rw [if_neg (by omega), if_neg (by omega)] at h2
 exact Option.some.inj h2
def IsMin (A : Aut) : Prop := ∃ t o rows, TOk t ∧ (minW t).all 0 = some (o, rows) ∧ A = autQ t (o, rows) ∧ (movesT rows).length ≤ 20000
theorem redX_min {a A : Aut} (h : AOk a) (hr : redX a = .ok A) : IsMin A := by
 obtain ⟨t, o, rows, hs, hT, hu, hF, e, hm⟩ := redX_ok h hr
 exact ⟨t, o, rows, hT, hu, e, hm⟩
section
variable {A B : Aut}
theorem IsMin.aok (h : IsMin A) : AOk A := by
 obtain ⟨t, o, rows, hT, hu, rfl, hm⟩ := h
 exact autQ_aok hT (fin_of hT hu) hm
theorem IsMin.det (h : IsMin A) : DetA A := by
 obtain ⟨t, o, rows, hT, hu, rfl, hm⟩ := h
 exact det_Q hT (fin_of hT hu) hm
theorem IsMin.red (h : IsMin A) : redX A = .ok A := by
 obtain ⟨t, o, rows, hT, hu, rfl, hm⟩ := h
 exact autQ_idem hT hu hm
theorem IsMin.start (h : IsMin A) : closL A A.start = [((0 : Nat) : Int)] := by
 have hok := h.aok
 obtain ⟨t, o, rows, hT, hu, rfl, hm⟩ := h
 exact autQ_start (fin_of hT hu) hok
theorem IsMin.next (h : IsMin A) {i s : Nat} (hi : i < A.n.toNat) (hs : s < A.syms.toNat) : nextL A (s : Nat) [(i : Int)] = [((stepA A i s : Nat) : Int)] ∧ stepA A i s < A.n.toNat := by
 have hok := h.aok
 have hd := h.det
 refine ⟨?_, hd.sl i s hi hs⟩
 obtain ⟨t, o, rows, hT, hu, rfl, hm⟩ := h
 have hF := fin_of hT hu
 have e1 : (autQ t (o, rows)).n.toNat = o.length := Int.toNat_natCast _
 have e2 : (autQ t (o, rows)).syms.toNat = t.m := Int.toNat_natCast _
 rw [e1] at hi
 rw [e2] at hs
 obtain ⟨r, n, x, y, hr, hn, hx, hy, _⟩ := autQ_row hF hi hs
 have h1 := mvFrom_at (k := 0) hF.ok.len hr hn
 rw [Nat.zero_add] at h1
 have h2 : stepA (autQ t (o, rows)) i s = n := by
  rw [stepA_at (x := ⟨(i : Nat), (n : Nat), (s : Nat)⟩) (by rw [e2]; exact h1)]
  exact Int.toNat_natCast _
 rw [h2]
 exact autQ_next hF hok hr hn (lt_of_get hy)
theorem IsMin.uniq (hA : IsMin A) (hB : IsMin B) (hs : A.syms = B.syms) (hL : ∀ w, WordN A.syms.toNat w → accA A (wI w) = accA B (wI w)) : A = B := redX_uniq hA.aok hB.aok hs hL hA.red hB.red
theorem prod_at (hA : IsMin A) (hB : IsMin B) (hs : A.syms = B.syms) {op : Int} {o : List ((Nat × Nat) × (Int × Int))} {rows : List (List Nat)} (hu : prodQ A B = some (o, rows)) : ∀ (w : List Nat) (i : Nat) (p : (Nat × Nat) × (Int × Int)), WordN A.syms.toNat w → o[i]? = some p → accT (prodT A B op (o, rows)) i w = decB op (accB A (stepL A [((p.1.1 : Nat) : Int)] (wI w))) (accB B (stepL B [((p.1.2 : Nat) : Int)] (wI w))) := by
 obtain ⟨h1, _, h3⟩ := prod_ok hA.det hB.det hs hu
 have hcap : o.length ≤ 2000 := h1.cap
 have h5 := h3 hcap
 intro w
 induction w with
 | nil =>
   intro i p _ hi
   show ((o.map (prodF A B op))[i]?).getD false = decB op (finB A _ || false) (finB B _ || false)
   rw [List.getElem?_map, hi, Bool.or_false, Bool.or_false]; rfl
 | cons c w ih =>
   intro i p hw hi
   have hc : c < A.syms.toNat := hw c (List.mem_cons_self ..)
   have hp := h1.p p (List.mem_of_getElem? hi)
   obtain ⟨r, hr⟩ := get_some (show i < rows.length by have := lt_of_get hi; omega)
   have hl : r.length = A.syms.toNat := h1.len r (List.mem_of_getElem? hr)
   obtain ⟨n, hn⟩ := get_some (show c < r.length by omega)
   obtain ⟨h6, h7⟩ := h1.to i p r c n hi hr hn
   obtain ⟨q, hq, hq2⟩ := posK_at (f := (prodW A B).key) (l := o) (k := (prodW A B).key ((prodW A B).step i p c)) (by rw [h7]; exact h6)
   rw [h7] at hq
   have hq3 : q.1 = (stepA A p.1.1 c, stepA B p.1.2 c) := hq2
   rw [accT_cons, toT_at (t := prodT A B op (o, rows)) hr hn, ih n q (fun c hc => hw c (List.mem_cons_of_mem _ hc)) hq, hq3]
   dsimp only
   rw [← (hA.next hp.1 hc).1, ← (hB.next hp.2 (by rw [← hs]; exact hc)).1]
   rfl
theorem prod_lang (hA : IsMin A) (hB : IsMin B) (hs : A.syms = B.syms) {op : Int} {q : List ((Nat × Nat) × (Int × Int)) × List (List Nat)} (hu : prodQ A B = some q) {w : List Nat} (hw : WordN A.syms.toNat w) : accT (prodT A B op q) 0 w = decB op (accA A (wI w)) (accA B (wI w)) := by
 obtain ⟨h1, _, _⟩ := prod_ok hA.det hB.det hs hu
 rw [accA_def, accA_def, hA.start, hB.start]
 exact prod_at hA hB hs hu w 0 _ hw h1.zero
end
theorem redX_syms {a A : Aut} (h : AOk a) (hr : redX a = .ok A) : A.syms = a.syms := (redX_det h hr).2
inductive Pth (a : Aut) : Int → List Int → Int → Prop
 | nil (s : Int) : Pth a s [] s
 | eps {m : Mv} {w : List Int} {t : Int} (hm : m ∈ a.moves) (hs : m.sym = -1) (h : Pth a m.dst w t) : Pth a m.src w t
 | sym {m : Mv} {w : List Int} {t : Int} (hm : m ∈ a.moves) (hs : ¬ m.sym = -1) (h : Pth a m.dst w t) : Pth a m.src (m.sym :: w) t
section
variable {a : Aut}
theorem Pth.cons {s t c : Int} {w : List Int} (h : Pth a s (c :: w) t) : ∃ m ∈ a.moves, Pth a s [] m.src ∧ m.sym = c ∧ ¬ m.sym = -1 ∧ Pth a m.dst w t := by
 generalize e : c :: w = v at h
 induction h with
 | nil s => cases e
 | eps hm hs _ ih =>
   obtain ⟨m', h1, h2, h3⟩ := ih e
   exact ⟨m', h1, .eps hm hs h2, h3⟩
 | sym hm hs h _ =>
   cases e
   exact ⟨_, hm, .nil _, rfl, hs, h⟩
theorem Pth.mono {b : Aut} (hs : ∀ m ∈ a.moves, m ∈ b.moves) {s t : Int} {w : List Int} (h : Pth a s w t) : Pth b s w t := by
 induction h with
 | nil s => exact .nil s
 | eps hm h1 _ ih => exact .eps (hs _ hm) h1 ih
 | sym hm h1 _ ih => exact .sym (hs _ hm) h1 ih
end
section
variable {a b : Aut}
end
theorem asc_chain : ∀ {l : List Mv}, AscM l → chainB mvLt l = true
 | [], _ => rfl
 | [_], _ => rfl
 | x :: y :: l, h => by
   have h' := List.pairwise_cons.1 h
   rw [chainB, Bool.and_eq_true]
   exact ⟨h'.1 y (List.mem_cons_self ..), asc_chain h'.2⟩
theorem srt_chain : ∀ {l : List Int}, Srt l → chainB ltI l = true
 | [], _ => rfl
 | [_], _ => rfl
 | x :: y :: l, h => by
   have h' := List.pairwise_cons.1 h
   rw [chainB, Bool.and_eq_true]
   exact ⟨by unfold ltI; simpa using h'.1 y (List.mem_cons_self ..), srt_chain h'.2⟩
theorem st_ok {a : Aut} {l : List Int} (h : InS a l) (hs : Srt l) : stOk a.n l = true := by
 unfold stOk
 rw [Bool.and_eq_true, List.all_eq_true]
 refine ⟨fun x hx => ?_, srt_chain hs⟩
 have := h x hx
 simp [this.1, this.2]
section
variable {a b : Aut}
end
section
variable {a b : Aut}
theorem flat_len {α β : Type} {f : α → List β} {n : Nat} (h : ∀ x, (f x).length = n) : ∀ l : List α, (l.flatMap f).length = l.length * n
 | [] => by simp
 | x :: l => by rw [List.flatMap_cons, List.length_append, h, flat_len h l, List.length_cons, Nat.succ_mul, Nat.add_comm]
end
section
variable {a b : Aut}
inductive Star (L : List Int → Prop) : List Int → Prop
 | nil : Star L []
 | app {u v : List Int} (h : L u) (h' : Star L v) : Star L (u ++ v)
inductive Mix : List Int → List Int → List Int → Prop
 | nil : Mix [] [] []
 | one {w u v : List Int} (c : Int) (h : Mix w u v) : Mix (c :: w) (c :: u) v
 | two {w u v : List Int} (c : Int) (h : Mix w u v) : Mix (c :: w) u (c :: v)
end
section
variable {α κ : Type} [DecidableEq κ] {W : Srch α κ} {g : α → Int}
theorem Srch.row_ages (hg : ∀ i x s, g (W.step i x s) = ((i : Nat) : Int)) {i : Nat} {x : α} {o : List α} : ∀ {s : Nat} {o' : List α} {r : List Nat}, W.row i x o s = some (o', r) → o <+: o' ∧ (∀ k y, o.length ≤ k → o'[k]? = some y → g y = ((i : Nat) : Int)) ∧ ∀ c n : Nat, r[c]? = some n → n < o'.length
 | 0, o', r, h => by
   rw [Srch.row] at h; cases h
   exact ⟨List.prefix_refl _, fun k y hk hy => by have := lt_of_get hy; omega, fun c n h => by simp at h⟩
 | s + 1, o', r, h => by
   rw [Srch.row, Option.bind_eq_some_iff] at h
   obtain ⟨⟨o1, r1⟩, h1, h2⟩ := h
   obtain ⟨⟨o2, n⟩, h3, h4⟩ := Option.map_eq_some_iff.1 h2
   cases h4
   obtain ⟨h5, h6, h7⟩ := Srch.row_ages hg h1
   obtain ⟨h8, h9, _⟩ := visit_pre h3
   dsimp only at h3 h8 h9 ⊢
   refine ⟨h5.trans h8, fun k y hk hy => ?_, fun c m hc => ?_⟩
   · rcases Nat.lt_or_ge k o1.length with hkl | hkl
     · obtain ⟨z, hz⟩ := get_some hkl
       have := preG_get h8 hz
       rw [this] at hy; cases hy
       exact h6 k y hk hz
     · have hv := h3
       unfold Go.Proofs.YtgigclnaicbiaaaDoor.visit at hv
       split at hv
       · cases hv; have := lt_of_get hy; omega
       · split at hv
         · cases hv
         · cases hv
           have h10 := lt_of_get hy
           rw [List.length_append, List.length_singleton] at h10
           rw [List.getElem?_append_right hkl, show k - o1.length = 0 by omega] at hy
           cases hy
           exact hg i x s
   · rw [List.getElem?_append] at hc
     split at hc
     · have := h7 c m hc
       have := h8.length_le
       omega
     · have h10 := lt_of_get hc
       rw [List.length_singleton] at h10
       rw [show c - r1.length = 0 by omega] at hc
       cases hc; exact h9
structure Srch.Aged (g : α → Int) (i : Nat) (o : List α) (rows : List (List Nat)) : Prop where
 mono : ∀ (j k : Nat) (x y : α), j ≤ k → o[j]? = some x → o[k]? = some y → g x ≤ g y
 lt : ∀ (j : Nat) (x : α), o[j]? = some x → g x < (i : Nat)
 len : i ≤ o.length → rows.length = i
 to : ∀ (p : Nat) (r : List Nat) (c n : Nat), rows[p]? = some r → r[c]? = some n → ∃ x, o[n]? = some x ∧ g x ≤ (p : Nat)
theorem Srch.ages (hg : ∀ i x s, g (W.step i x s) = ((i : Nat) : Int)) {x0 : α} (h0 : g x0 = -1) : ∀ {i : Nat} {o : List α} {rows : List (List Nat)}, W.upto x0 i = some (o, rows) → Srch.Aged g i o rows
 | 0, o, rows, h => by
   rw [Srch.upto] at h; cases h
   refine ⟨fun j k x y _ hx hy => ?_, fun j x hx => ?_, fun _ => rfl, fun p r c n h => by simp at h⟩
   · have h1 := lt_of_get hx
     have h2 := lt_of_get hy
     rw [List.length_singleton] at h1 h2
     have e1 : j = 0 := by omega
     have e2 : k = 0 := by omega
     subst e1 e2
     rw [hx] at hy; cases hy; exact Int.le_refl _
   · have h1 := lt_of_get hx
     rw [List.length_singleton] at h1
     have e1 : j = 0 := by omega
     subst e1
     cases hx
     omega
 | i + 1, o, rows, h => by
   rw [Srch.upto, Option.bind_eq_some_iff] at h
   obtain ⟨⟨o1, rows1⟩, h1, h2⟩ := h
   have h3 := Srch.ages hg h0 h1
   dsimp only at h2
   cases hx : o1[i]? with
   | none =>
     rw [hx] at h2; cases h2
     have := List.getElem?_eq_none_iff.1 hx
     exact ⟨h3.mono, fun j x hx => by have := h3.lt j x hx; omega, fun h => by omega, h3.to⟩
   | some x =>
     rw [hx] at h2
     obtain ⟨⟨o2, r⟩, h5, h6⟩ := Option.map_eq_some_iff.1 h2
     cases h6
     dsimp only
     have hil := lt_of_get hx
     have hrl := h3.len (by omega)
     obtain ⟨h7, h8, h9⟩ := Srch.row_ages hg h5
     have old : ∀ {k : Nat} {y : α}, k < o1.length → o2[k]? = some y → o1[k]? = some y := fun {k y} hk hy => by
      obtain ⟨z, hz⟩ := get_some hk
      have := preG_get h7 hz
      rw [this] at hy; cases hy; exact hz
     have lt : ∀ (j : Nat) (x : α), o2[j]? = some x → g x < ((i + 1 : Nat) : Int) := fun j y hy => by
      rcases Nat.lt_or_ge j o1.length with hj | hj
      · have := h3.lt j y (old hj hy); omega
      · have := h8 j y hj hy; omega
     refine ⟨fun j k y z hjk hy hz => ?_, lt, fun _ => by rw [List.length_append, hrl]; rfl, fun p r' c n hr hn => ?_⟩
     · rcases Nat.lt_or_ge k o1.length with hk | hk
       · exact h3.mono j k y z hjk (old (by omega) hy) (old hk hz)
       · have e := h8 k z hk hz
         have := lt j y hy
         omega
     · rw [List.getElem?_append] at hr
       split at hr
       · obtain ⟨y, hy, hle⟩ := h3.to p r' c n hr hn
         exact ⟨y, preG_get h7 hy, hle⟩
       · have hp := lt_of_get hr
         rw [List.length_singleton] at hp
         rename_i hpl
         have ep : p = i := by omega
         subst ep
         rw [hrl, Nat.sub_self] at hr
         cases hr
         obtain ⟨y, hy⟩ := get_some (h9 c n hn)
         exact ⟨y, hy, by have := lt n y hy; omega⟩
end
abbrev PrS2 := (Nat × Nat) × (Int × Int)
structure PQ (A B : Aut) (o : List PrS2) (rows : List (List Nat)) : Prop where
 mA : IsMin A
 mB : IsMin B
 sy : A.syms = B.syms
 hu : prodQ A B = some (o, rows)
section
variable {A B : Aut} {o : List PrS2} {rows : List (List Nat)}
theorem PQ.ok (h : PQ A B o rows) : (prodW A B).Ok (PairOk A B) ((0, 0), (-1, -1)) o rows ∧ rows.length = o.length ∧ o.length ≤ 2000 := by
 obtain ⟨h1, _, h3⟩ := prod_ok h.mA.det h.mB.det h.sy h.hu
 have hcap : o.length ≤ 2000 := h1.cap
 exact ⟨h1, h3 hcap, hcap⟩
theorem PQ.back (h : PQ A B o rows) : Back (o.map (·.2)) := prod_back h.hu h.ok.1.zero
theorem PQ.aged (h : PQ A B o rows) : Srch.Aged (fun x : PrS2 => x.2.1) (prodW A B).cap o rows := by
 have hu : (prodW A B).upto ((0, 0), (-1, -1)) (prodW A B).cap = some (o, rows) := h.hu
 exact Srch.ages (g := fun x : PrS2 => x.2.1) (fun _ _ _ => rfl) rfl hu
def wlen (o : List PrS2) (j : Nat) : Nat := (wayP (o.map (·.2)) j).length
theorem PQ.zero (h : PQ A B o rows) : wayP (o.map (·.2)) 0 = [] := wayP_end (x := (-1, -1)) (by rw [List.getElem?_map, h.ok.1.zero]; rfl) (by decide)
theorem PQ.on (h : PQ A B o rows) {j : Nat} (hj : 0 < j) (hjl : j < o.length) : ∃ (i s : Nat) (x y : PrS2), i < j ∧ o[j]? = some x ∧ o[i]? = some y ∧ s < A.syms.toNat ∧ x = (prodW A B).step i y s ∧ x.2.1 = (i : Int) ∧ wayP (o.map (·.2)) j = wayP (o.map (·.2)) i ++ [(s : Int)] := by
 obtain ⟨x, hx⟩ := get_some hjl
 obtain ⟨i, y, s, h1, h2, h3, h4⟩ := Srch.born h.hu j x hj hx
 have e : x.2 = (((i : Nat) : Int), ((s : Nat) : Int)) := by rw [h4]; rfl
 refine ⟨i, s, x, y, h1, hx, h2, h3, h4, by rw [e], ?_⟩
 have hw := wayP_on h.back (i := j) (x := (((i : Nat) : Int), ((s : Nat) : Int))) (by rw [List.getElem?_map, hx, ← e]; rfl) (by dsimp only; omega)
 dsimp only at hw
 rw [Int.toNat_natCast] at hw
 exact hw
theorem PQ.mono (h : PQ A B o rows) : ∀ (k : Nat), k < o.length → ∀ j, j ≤ k → wlen o j ≤ wlen o k := fun k => by
 induction k using Nat.strongRecOn with
 | ind k ih =>
   intro hk j hjk
   rcases Nat.eq_zero_or_pos j with rfl | hj
   · unfold wlen; rw [h.zero]; exact Nat.zero_le _
   · obtain ⟨i, s, x, y, h1, h2, h3, _, _, h6, h7⟩ := h.on hj (by omega)
     obtain ⟨i', s', x', y', h1', h2', h3', _, _, h6', h7'⟩ := h.on (show 0 < k by omega) hk
     have hle : x.2.1 ≤ x'.2.1 := h.aged.mono j k x x' hjk h2 h2'
     have := ih i' h1' (by omega) i (by omega)
     unfold wlen at this ⊢
     rw [h7, h7', List.length_append, List.length_append]
     exact Nat.add_le_add_right this _
theorem PQ.step (h : PQ A B o rows) {p c n : Nat} {r : List Nat} (hr : rows[p]? = some r) (hn : r[c]? = some n) : wlen o n ≤ wlen o p + 1 := by
 obtain ⟨x, hx, hle⟩ := h.aged.to p r c n hr hn
 have hle : x.2.1 ≤ (p : Int) := hle
 rcases Nat.eq_zero_or_pos n with rfl | hn0
 · unfold wlen; rw [h.zero]; exact Nat.zero_le _
 · obtain ⟨i, s, x', y, h1, h2, h3, _, _, h6, h7⟩ := h.on hn0 (lt_of_get hx)
   rw [hx] at h2; cases h2
   have hpl : p < o.length := by rw [← h.ok.2.1]; exact lt_of_get hr
   have := h.mono p hpl i (by omega)
   unfold wlen at this ⊢
   rw [h7, List.length_append, List.length_singleton]
   omega
theorem PQ.row (h : PQ A B o rows) {op : Int} {p c : Nat} (hp : p < o.length) (hc : c < A.syms.toNat) : ∃ (r : List Nat) (n : Nat), rows[p]? = some r ∧ r[c]? = some n ∧ toT (prodT A B op (o, rows)) p c = n ∧ n < o.length := by
 obtain ⟨r, hr⟩ := get_some (show p < rows.length by rw [h.ok.2.1]; exact hp)
 have hl : r.length = A.syms.toNat := h.ok.1.len r (List.mem_of_getElem? hr)
 obtain ⟨n, hn⟩ := get_some (show c < r.length by omega)
 obtain ⟨x, hx⟩ := get_some hp
 exact ⟨r, n, hr, hn, toT_at (t := prodT A B op (o, rows)) hr hn, (h.ok.1.to p x r c n hx hr hn).1⟩
theorem runT_snoc (t : Tab) (x : Nat) (w : List Nat) (c : Nat) : runT t x (w ++ [c]) = toT t (runT t x w) c := by unfold runT; rw [List.foldl_append]; rfl
theorem snoc_ind {α : Type} {P : List α → Prop} (h0 : P []) (h1 : ∀ l x, P l → P (l ++ [x])) (l : List α) : P l := by
 have : ∀ m : List α, P m.reverse := fun m => by
  induction m with
  | nil => exact h0
  | cons x m ih => rw [List.reverse_cons]; exact h1 _ _ ih
 have h := this l.reverse
 rw [List.reverse_reverse] at h; exact h
theorem PQ.run (h : PQ A B o rows) {op : Int} (w : List Nat) : WordN A.syms.toNat w → runT (prodT A B op (o, rows)) 0 w < o.length ∧ wlen o (runT (prodT A B op (o, rows)) 0 w) ≤ w.length := by
 refine snoc_ind (P := fun w => WordN A.syms.toNat w → runT (prodT A B op (o, rows)) 0 w < o.length ∧ wlen o (runT (prodT A B op (o, rows)) 0 w) ≤ w.length) ?_ ?_ w
 · intro _
   refine ⟨h.ok.1.pos, ?_⟩
   show wlen o 0 ≤ 0
   unfold wlen; rw [h.zero]; exact Nat.le_refl _
 · intro w c ih hw
   obtain ⟨h1, h2⟩ := ih fun c hc => hw c (List.mem_append_left _ hc)
   obtain ⟨r, n, hr, hn, e, hno⟩ := h.row (op := op) h1 (hw c (List.mem_append_right _ (List.mem_singleton.2 rfl)))
   rw [runT_snoc, e]
   have := h.step hr hn
   rw [List.length_append, List.length_singleton]
   exact ⟨hno, by omega⟩
theorem PQ.fin (h : PQ A B o rows) {op : Int} {w : List Nat} (hw : WordN A.syms.toNat w) {x : PrS2} (hx : o[runT (prodT A B op (o, rows)) 0 w]? = some x) : prodF A B op x = decB op (accA A (wI w)) (accA B (wI w)) := by
 have := prod_lang h.mA h.mB h.sy (op := op) h.hu hw
 rw [← this]
 show _ = ((o.map (prodF A B op))[runT (prodT A B op (o, rows)) 0 w]?).getD false
 rw [List.getElem?_map, hx]; rfl
end
theorem ixB_some {l : List Bool} : ∀ {i : Nat}, l.idxOf? true = some i ↔ l[i]? = some true ∧ ∀ j, j < i → l[j]? = some false := by
 induction l with
 | nil => intro i; simp
 | cons b l ih =>
   intro i
   rw [List.idxOf?_cons]
   cases b with
   | true =>
     simp only [beq_self_eq_true, if_true]
     constructor
     · intro h; cases h; exact ⟨rfl, fun j hj => by omega⟩
     · rintro ⟨h1, h2⟩
       rcases Nat.eq_zero_or_pos i with rfl | hi
       · rfl
       · have := h2 0 hi; simp at this
   | false =>
     simp only [show (false == true) = false from rfl, Bool.false_eq_true, if_false]
     cases i with
     | zero => simp
     | succ i =>
       rw [Option.map_eq_some_iff]
       constructor
       · rintro ⟨k, hk, e⟩
         have : k = i := by omega
         subst this
         obtain ⟨h1, h2⟩ := ih.1 hk
         refine ⟨h1, fun j hj => ?_⟩
         cases j with
         | zero => rfl
         | succ j => exact h2 j (by omega)
       · rintro ⟨h1, h2⟩
         exact ⟨i, ih.2 ⟨h1, fun j hj => h2 (j + 1) (by omega)⟩, rfl⟩
theorem ixB_none {l : List Bool} : l.idxOf? true = none ↔ ∀ (j : Nat) (b : Bool), l[j]? = some b → b = false := by
 rw [List.idxOf?_eq_none_iff]
 constructor
 · intro h j b hb
   cases b with
   | false => rfl
   | true => exact absurd (List.mem_of_getElem? hb) h
 · intro h hm
   obtain ⟨j, hj⟩ := List.getElem?_of_mem hm
   cases h j true hj
theorem rowMv_asc (i : Nat) (r : List Nat) : AscM (rowMv i r) := by
 unfold AscM
 rw [List.pairwise_iff_getElem]
 intro j k hj hk hjk
 unfold rowMv at hj hk ⊢
 rw [List.length_map, List.length_zipIdx] at hj hk
 rw [mvLt_iff, List.getElem_map, List.getElem_map, List.getElem_zipIdx, List.getElem_zipIdx]
 dsimp only
 omega
theorem mvFrom_asc : ∀ (rows : List (List Nat)) (k : Nat), AscM (mvFrom k rows)
 | [], _ => .nil
 | r :: rows, k => by
   rw [mvFrom_cons]
   refine List.pairwise_append.2 ⟨rowMv_asc k r, mvFrom_asc rows (k + 1), fun x hx y hy => ?_⟩
   have h1 := rowMv_src x hx
   have h2 := mvFrom_src y hy
   rw [mvLt_iff]
   omega
theorem IsMin.valid {A : Aut} (h : IsMin A) : autOk A = true := by
 have hok := h.aok
 obtain ⟨t, o, rows, hT, hu, rfl, hm⟩ := h
 have h1 := hok.n0
 have h2 := hok.n1
 have h3 := hok.s0
 have h4 := hok.s1
 have h5 := hok.ml
 unfold autOk
 simp only [Bool.and_eq_true, decide_eq_true_eq]
 refine ⟨⟨⟨⟨⟨⟨⟨⟨h1, h2⟩, h3⟩, h4⟩, h5⟩, st_ok hok.st (List.pairwise_singleton ..)⟩, st_ok hok.fi (listedL_srt _ _)⟩, ?_⟩, asc_chain (mvFrom_asc rows 0)⟩
 rw [List.all_eq_true]
 intro m hm'
 have := hok.mv m hm'
 unfold mvOk
 simp only [Bool.and_eq_true, decide_eq_true_eq]
 omega
theorem minX_ok3 {a m : Aut} (h : minX a = .ok m) : autOk a = true ∧ redX a = .ok m ∧ IsMin m ∧ m.syms = a.syms := by
 obtain ⟨h1, h2⟩ := minX_ok h
 exact ⟨h1, h2, redX_min (aok_of h1) h2, redX_syms (aok_of h1) h2⟩
theorem IsMin.minX {m : Aut} (h : IsMin m) : minX m = .ok m := by unfold Go.Proofs.YtgigclnaicbiaaaDoor.minX; rw [if_pos h.valid, h.red]
theorem prodQ_sym {A B : Aut} (hs : A.syms = B.syms) {o : List PrS2} {rows : List (List Nat)} (hu : prodQ A B = some (o, rows)) : ∃ o', prodQ B A = some (o', rows) ∧ Rel2 (fun x y : PrS2 => y = ((x.1.2, x.1.1), x.2)) o o' := by
 have hu : (prodW A B).upto ((0, 0), (-1, -1)) (prodW A B).cap = some (o, rows) := hu
 obtain ⟨o', h1, h2⟩ := Srch.sim (W := prodW A B) (W' := prodW B A) (R := fun x y : PrS2 => y = ((x.1.2, x.1.1), x.2)) (by show A.syms.toNat = B.syms.toNat; rw [hs]) (Nat.le_refl _)
  (fun x x' y y' e e' => by
    subst e e'
    show x.1 = x'.1 ↔ (x.1.2, x.1.1) = (x'.1.2, x'.1.1)
    rcases x with ⟨⟨x1, x2⟩, x3⟩
    rcases x' with ⟨⟨y1, y2⟩, y3⟩
    simp only [Prod.mk.injEq]
    exact ⟨fun h => ⟨h.2, h.1⟩, fun h => ⟨h.2, h.1⟩⟩)
  (fun i x y s e _ => by subst e; rfl) rfl hu
 exact ⟨o', h1, h2⟩
theorem bothX_some {a b A B : Aut} (ha : redX a = .ok A) (hb : redX b = .ok B) {q : List PrS2 × List (List Nat)} (hq : prodQ A B = some q) : bothX a b = .ok (A, B, q) := by unfold bothX; rw [ha, hb]; dsimp only; rw [hq]
theorem bothX_none {a b A B : Aut} (ha : redX a = .ok A) (hb : redX b = .ok B) (hq : prodQ A B = none) : bothX a b = .error 13 := by unfold bothX; rw [ha, hb]; dsimp only; rw [hq]
theorem fit_ok2 {a b : Aut} (h1 : autOk a = true) (h2 : autOk b = true) (h : a.syms = b.syms) : fitX a b = 0 := by unfold fitX; rw [if_neg (by rw [h1, h2]; simp), if_neg (fun e => e h)]
theorem cmpX_some {a b A B : Aut} {op : Int} (hf : fitX a b = 0) (ha : redX a = .ok A) (hb : redX b = .ok B) {q : List PrS2 × List (List Nat)} (hq : prodQ A B = some q) : cmpX a b op = ((cmpR A B op q).1, (cmpR A B op q).2, 0) := by
 unfold cmpX; rw [if_neg (fun h => h hf), bothX_some ha hb hq]
theorem cmpX_none {a b A B : Aut} {op : Int} (hf : fitX a b = 0) (ha : redX a = .ok A) (hb : redX b = .ok B) (hq : prodQ A B = none) : cmpX a b op = (false, [], 13) := by
 unfold cmpX; rw [if_neg (fun h => h hf), bothX_none ha hb hq]
section
variable {A B : Aut} {o : List PrS2} {rows : List (List Nat)}
theorem cmpR_some {op : Int} {i : Nat} (h : (o.map (prodF A B op)).idxOf? true = some i) : cmpR A B op (o, rows) = (false, wayP (o.map (·.2)) i) := by unfold cmpR; dsimp only; rw [h]; rfl
theorem cmpR_none {op : Int} (h : (o.map (prodF A B op)).idxOf? true = none) : cmpR A B op (o, rows) = (true, []) := by unfold cmpR; dsimp only; rw [h]
theorem PQ.same (h : PQ A B o rows) (hn : (o.map (prodF A B 4)).idxOf? true = none) : A = B := by
 refine h.mA.uniq h.mB h.sy fun w hw => ?_
 obtain ⟨h1, _⟩ := h.run (op := 4) w hw
 obtain ⟨x, hx⟩ := get_some h1
 have h2 := h.fin (op := 4) hw hx
 have h3 := ixB_none.1 hn _ (prodF A B 4 x) (by rw [List.getElem?_map, hx]; rfl)
 rw [h3] at h2
 have h4 : (accA A (wI w) != accA B (wI w)) = false := h2.symm
 revert h4
 cases accA A (wI w) <;> cases accA B (wI w) <;> simp
theorem prod_diag {A : Aut} (mA : IsMin A) {o : List PrS2} {rows : List (List Nat)} (hu : prodQ A A = some (o, rows)) : (o.map (prodF A A 4)).idxOf? true = none := by
 have hu : (prodW A A).upto ((0, 0), (-1, -1)) (prodW A A).cap = some (o, rows) := hu
 obtain ⟨h1, _, _⟩ := Srch.ok (W := prodW A A) (P := fun x : PrS2 => x.1.1 = x.1.2) (show 1 ≤ 2000 by decide) rfl (fun i x s hx _ => by
  show stepA A x.1.1 s = stepA A x.1.2 s
  rw [hx]) hu
 refine ixB_none.2 fun j b hb => ?_
 rw [List.getElem?_map] at hb
 obtain ⟨x, hx, rfl⟩ := Option.map_eq_some_iff.1 hb
 have h2 := h1.p x (List.mem_of_getElem? hx)
 have h2 : x.1.1 = x.1.2 := h2
 unfold prodF
 rw [h2]
 show (finB A _ != finB A _) = false
 simp
end
theorem uniq_two {a m : Aut} (h : minX a = .ok m) : (∃ w, cmpX a m 4 = (true, w, 0)) ∨ ∃ s w, cmpX a m 4 = (s, w, 13) := by
 obtain ⟨h1, h2, h3, h4⟩ := minX_ok3 h
 have hf := fit_ok2 h1 h3.valid h4.symm
 cases hq : prodQ m m with
 | none => exact .inr ⟨_, _, cmpX_none hf h2 h3.red hq⟩
 | some q =>
   obtain ⟨o, rows⟩ := q
   have h5 := prod_diag h3 hq
   exact .inl ⟨_, by rw [cmpX_some hf h2 h3.red hq, cmpR_none h5]⟩
def UniqR (m n : Aut) (x y z : Bool × List Int × Int) : Prop := (x.2.2 = 13 ∧ y.2.2 = 13 ∧ z.2.2 = 13) ∨ (x.2.2 = 0 ∧ y.2.2 = 0 ∧ z.2.2 = 0 ∧ (x.1 = true ↔ m = n) ∧ x.1 = (y.1 && z.1) ∧ (x.1 = true ∨ (y.1 = true ∧ x.2.1 = z.2.1) ∨ (z.1 = true ∧ x.2.1 = y.2.1) ∨ (y.1 = false ∧ z.1 = false ∧ (x.2.1 = y.2.1 ∨ x.2.1 = z.2.1) ∧ x.2.1.length ≤ y.2.1.length ∧ x.2.1.length ≤ z.2.1.length)))
theorem uniq_three {a b m n : Aut} (hm : minX a = .ok m) (hn : minX b = .ok n) (hs : a.syms = b.syms) : UniqR m n (cmpX a b 4) (cmpX a b 3) (cmpX b a 3) := by
 obtain ⟨a1, a2, a3, a4⟩ := minX_ok3 hm
 obtain ⟨b1, b2, b3, b4⟩ := minX_ok3 hn
 have hf := fit_ok2 a1 b1 hs
 have hf' := fit_ok2 b1 a1 hs.symm
 have sy : m.syms = n.syms := by rw [a4, b4, hs]
 cases hq : prodQ m n with
 | none =>
   have hq' : prodQ n m = none := by
    cases h : prodQ n m with
    | none => rfl
    | some q =>
      obtain ⟨o', h1, _⟩ := prodQ_sym (o := q.1) (rows := q.2) sy.symm h
      rw [hq] at h1; cases h1
   exact .inl ⟨by rw [cmpX_none hf a2 b2 hq], by rw [cmpX_none hf a2 b2 hq], by rw [cmpX_none hf' b2 a2 hq']⟩
 | some q =>
   obtain ⟨o, rows⟩ := q
   obtain ⟨o', hq', hr⟩ := prodQ_sym sy hq
   have hP : PQ m n o rows := ⟨a3, b3, sy, hq⟩
   rw [cmpX_some hf a2 b2 hq, cmpX_some hf a2 b2 hq, cmpX_some hf' b2 a2 hq']
   refine .inr ⟨rfl, rfl, rfl, ?_⟩
   dsimp only
   have hpar : o'.map (·.2) = o.map (·.2) := by
    refine List.ext_getElem? fun i => ?_
    rw [List.getElem?_map, List.getElem?_map]
    rcases Nat.lt_or_ge i o.length with hi | hi
    · obtain ⟨x, hx⟩ := get_some hi
      obtain ⟨y, hy⟩ := get_some (show i < o'.length by rw [← hr.1]; exact hi)
      rw [hx, hy, hr.2 i x y hx hy]; rfl
    · rw [List.getElem?_eq_none hi, List.getElem?_eq_none (by rw [← hr.1]; exact hi)]
   have tri : ∀ i, i < o.length → ∃ q r : Bool, (o.map (prodF m n 4))[i]? = some (q || r) ∧ (o.map (prodF m n 3))[i]? = some q ∧ (o'.map (prodF n m 3))[i]? = some r ∧ (q && r) = false := fun i hi => by
    obtain ⟨x, hx⟩ := get_some hi
    obtain ⟨y, hy⟩ := get_some (show i < o'.length by rw [← hr.1]; exact hi)
    have e := hr.2 i x y hx hy
    rw [List.getElem?_map, List.getElem?_map, List.getElem?_map, hx, hy, e]
    refine ⟨prodF m n 3 x, prodF n m 3 ((x.1.2, x.1.1), x.2), ?_, rfl, rfl, ?_⟩
    · show some (finB m _ != finB n _) = some ((finB m _ && !finB n _) || (finB n _ && !finB m _))
      cases finB m (x.1.1 : Nat) <;> cases finB n (x.1.2 : Nat) <;> rfl
    · show ((finB m _ && !finB n _) && (finB n _ && !finB m _)) = false
      cases finB m (x.1.1 : Nat) <;> cases finB n (x.1.2 : Nat) <;> rfl
   have lP : (o.map (prodF m n 4)).length = o.length := List.length_map _
   have lQ : (o.map (prodF m n 3)).length = o.length := List.length_map _
   have lR : (o'.map (prodF n m 3)).length = o.length := by rw [List.length_map, hr.1]
   cases hx : (o.map (prodF m n 4)).idxOf? true with
   | none =>
     have hall : ∀ i, i < o.length → (o.map (prodF m n 3))[i]? = some false ∧ (o'.map (prodF n m 3))[i]? = some false := fun i hi => by
      obtain ⟨q, r, h1, h2, h3, _⟩ := tri i hi
      have h4 := ixB_none.1 hx i _ h1
      cases q <;> cases r <;> simp_all
     have hy : (o.map (prodF m n 3)).idxOf? true = none := ixB_none.2 fun j b hb => by
      have := (hall j (by rw [← lQ]; exact lt_of_get hb)).1
      rw [this] at hb; cases hb; rfl
     have hz : (o'.map (prodF n m 3)).idxOf? true = none := ixB_none.2 fun j b hb => by
      have := (hall j (by rw [← lR]; exact lt_of_get hb)).2
      rw [this] at hb; cases hb; rfl
     rw [cmpR_none hx, cmpR_none hy, cmpR_none hz]
     exact ⟨⟨fun _ => hP.same hx, fun _ => rfl⟩, rfl, .inl rfl⟩
   | some i =>
     obtain ⟨hi, hlt⟩ := ixB_some.1 hx
     have hil : i < o.length := by rw [← lP]; exact lt_of_get hi
     have hne : ¬ m = n := fun e => by
      subst e
      rw [prod_diag a3 hq] at hx; cases hx
     have before : ∀ j, j < i → (o.map (prodF m n 3))[j]? = some false ∧ (o'.map (prodF n m 3))[j]? = some false := fun j hj => by
      obtain ⟨q, r, h1, h2, h3, _⟩ := tri j (by omega)
      rw [hlt j hj] at h1
      cases q <;> cases r <;> simp_all
     obtain ⟨q, r, h1, h2, h3, h4⟩ := tri i hil
     rw [hi] at h1
     rw [cmpR_some hx]
     have iff1 : (false = true ↔ m = n) := ⟨fun h => Bool.noConfusion h, fun h => absurd h hne⟩
     cases q with
     | true =>
       have hy := ixB_some.2 ⟨h2, fun j hj => (before j hj).1⟩
       rw [cmpR_some hy]
       refine ⟨iff1, rfl, ?_⟩
       cases hz : (o'.map (prodF n m 3)).idxOf? true with
       | none => rw [cmpR_none hz]; exact .inr (.inr (.inl ⟨rfl, rfl⟩))
       | some k =>
         rw [cmpR_some hz, hpar]
         obtain ⟨hk, hkl⟩ := ixB_some.1 hz
         have hik : i ≤ k := by
          rcases Nat.lt_or_ge k i with h5 | h5
          · rw [(before k h5).2] at hk; cases hk
          · exact h5
         exact .inr (.inr (.inr ⟨rfl, rfl, .inl rfl, Nat.le_refl _, hP.mono k (by rw [← lR]; exact lt_of_get hk) i hik⟩))
     | false =>
       cases r with
       | false => simp at h1
       | true =>
         have hz := ixB_some.2 ⟨h3, fun j hj => (before j hj).2⟩
         rw [cmpR_some hz, hpar]
         cases hy : (o.map (prodF m n 3)).idxOf? true with
         | none =>
           rw [cmpR_none hy]
           exact ⟨iff1, rfl, .inr (.inl ⟨rfl, rfl⟩)⟩
         | some k =>
           rw [cmpR_some hy]
           obtain ⟨hk, hkl⟩ := ixB_some.1 hy
           have hik : i ≤ k := by
            rcases Nat.lt_or_ge k i with h5 | h5
            · rw [(before k h5).1] at hk; cases hk
            · exact h5
           exact ⟨iff1, rfl, .inr (.inr (.inr ⟨rfl, rfl, .inr rfl, hP.mono k (by rw [← lQ]; exact lt_of_get hk) i hik, Nat.le_refl _⟩))⟩
end Go.Proofs.YtgigclnaicbiaaaDoor
