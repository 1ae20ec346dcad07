/-
  Walks: automata: Star.
  The engine: maps keyed by pairs of numbers. No program in sight.
  The engine: three values are handed back. No program in sight.
  Walks: automata: products.
  The engine: a row of numbers is turned round by the library. No program in sight.
  Walks: automata: the first word of a product.
  Walks: automata: both, compare, Equivalent, Included, Product.
  Walks: words, moves, automata are compared; the law's bounds (layer 7).
  Plain laws: the words of an automaton, in a form that is evaluated. No program in sight.
  Plain laws: the chapter's automaton is evaluated. No program in sight.
  Walks: automata are compared; the law's bounds; the chapter's automaton (layer 7).
  Plain laws: the chapter's automaton, its star, what they are compared with, evaluated. No program in sight.
  Walks: awake (layer 7).
  The engine, last part: arguments of whatever shape, as they came in, read as plain data; and the frame of a law's row. No program in sight.
  The engine: a struct of five fields read as an argument. No program in sight.
  How the arguments of the laws read; what is handed back, as one automaton and one number; the law on Minimal and Complement (layer 7).
  Plain laws: the laws of languages. No program in sight.
  Plain laws: the shortest word of an automaton, as the program finds it and as the reference does. No program in sight.
  Plain laws: distances are those of ways; Words lists all words in order; the shortest word is the first one. No program in sight.
  Walks: what accepts a word; the greater of two numbers.
-/
import Derived.WalkKit
import Derived.ProofKit
import Derived.OpenShut
import Derived.ShutString
import Derived.ChangeOld
import Derived.Below
import Derived.Carry
import Derived.Deep.Slices
import Derived.Test.YtgigclnaicbiaaaGreatDoorPk05
import Derived.Test.YtgigclnaicbiaaaGreatDoorPk02
import Derived.Test.YtgigclnaicbiaaaGreatDoorPk04
import Derived.Test.YtgigclnaicbiaaaGreatDoorMShelfG
import Derived.Test.YtgigclnaicbiaaaGreatDoorPk03
namespace Go.Proofs.YtgigclnaicbiaaaGreatDoor
open Go.RowKit Go.Cb Go.En
set_option linter.all false
set_option maxRecDepth 100000
theorem starX_bad {a : Aut} (h : autOk a = false) : starX a = .error 1 := by unfold starX; rw [h]; rfl
theorem starX_ok {a : Aut} (h : autOk a = true) : starX a = madeX (starA a) := by unfold starX; rw [h]; rfl
def stMv (n : Int) (l : List Int) : List Mv := l.map fun s => ⟨n, s, -1⟩
def fiMv (n : Int) (l : List Int) : List Mv := l.map fun s => ⟨s, n, -1⟩
theorem stMv_snoc (n : Int) {l : List Int} {k : Nat} {x : Int} (h : l[k]? = some x) : stMv n (l.take (k + 1)) = stMv n (l.take k) ++ [⟨n, x, -1⟩] := by unfold stMv; rw [take_snoc h, List.map_append]; rfl
theorem fiMv_snoc (n : Int) {l : List Int} {k : Nat} {x : Int} (h : l[k]? = some x) : fiMv n (l.take (k + 1)) = fiMv n (l.take k) ++ [⟨x, n, -1⟩] := by unfold fiMv; rw [take_snoc h, List.map_append]; rfl
theorem star_moves (a : Aut) : (starA a).moves = a.moves ++ stMv a.n a.start ++ fiMv a.n a.fin := rfl
theorem star_len {a : Aut} (h : AOk a) : (starA a).moves.length ≤ 1000000 := by
 rw [star_moves, List.length_append, List.length_append]
 unfold stMv fiMv
 rw [List.length_map, List.length_map]
 have := h.ml; have := h.sl; have := h.fl
 omega
theorem aStar_bad (a : Aut) (hv : autOk a = false) : AF Tryz.prog 44 [pAut a] (· = .tup [rawZ, pInt 1]) := by
 refine AF.of_body 64 Tryz.func44 rfl Tryz.ntmps44 (Nat.le_of_ble_eq_true rfl) ?_
 intro w0 M0 vs hl hv
 obtain ⟨v0, rfl⟩ := len1 hl
 clear hl hv
 refine nav ?_
 (refine aC_region ?_ <;> refine s_boxa 1 5 fun h1 => ?_ <;> refine s_alloc [(.int .i64 0), (.int .i64 0), (.slice none 0 0), (.slice none 0 0), (.slice none 0 0)] 5 2 tZr25_LfD fun h2 => ?_ <;> refine xL 3 q_assign ?_ <;> refine aL_end (nav ?_) <;> try dsimp only)
 (refine aC_region ?_ <;> (refine yL 10 (q_ldao 1 tAgg25_LdS) fun v10 hv10 => ?_; cases hv10) <;> (refine cS 11 (cA Tryz.call24 (aValid_e a)) fun v11 hv11 => ?_; cases hv11) <;> refine xL 12 q_not ?_ <;> refine aL_end (nav ?_) <;> try dsimp only)
 (first | refine cCd ?_ ?_ | refine cC ?_ ?_) <;> intro hb12
 · refine nav ?_
   (refine aC_region ?_ <;> refine xL 13 (q_build tSt25_LfD) ?_ <;> refine s_sta 2 tAgg25_LdS ?_ <;> refine xL 3 q_assign ?_ <;> refine aL_end (nav ?_) <;> try dsimp only)
   exact ret_cs (k := 5) 2 (by kernel_rfl) (Tryz.results44) rfl rfl rfl (Nat.le_of_ble_eq_true rfl) (by decide) rfl rfl
 · rw [hv] at hb12; simp at hb12
set_option maxHeartbeats 1000000 in
theorem aStar_g (a : Aut) (hv : autOk a = true) {p0 p1 p2 p3 p4 : PV} {E : Int} (r5 : R5 p0 p1 p2 p3 p4) (hr : AF Tryz.prog 83 [pAut (mkA (starA a))] (· = .tup [.agg [p0, p1, p2, p3, p4], pInt E])) : AF Tryz.prog 44 [pAut a] (· = .tup [.agg [p0, p1, p2, p3, p4], pInt E]) := by
 obtain ⟨o0, o1, o2, o3, o4⟩ := r5.o
 have h := vok_of hv
 have hn0 := h.n0
 have hn1 := h.n1
 have hml := h.ml
 have hsl := h.sl
 have hfl := h.fl
 refine AF.of_body 64 Tryz.func44 rfl Tryz.ntmps44 (Nat.le_of_ble_eq_true rfl) ?_
 intro w0 M0 vs hl hv
 obtain ⟨v0, rfl⟩ := len1 hl
 clear hl hv
 refine nav ?_
 (refine aC_region ?_ <;> refine s_boxa 1 5 fun h1 => ?_ <;> refine s_alloc [(.int .i64 0), (.int .i64 0), (.slice none 0 0), (.slice none 0 0), (.slice none 0 0)] 5 2 tZr25_LfD fun h2 => ?_ <;> refine xL 3 q_assign ?_ <;> refine aL_end (nav ?_) <;> try dsimp only)
 (refine aC_region ?_ <;> (refine yL 10 (q_ldao 1 tAgg25_LdS) fun v10 hv10 => ?_; cases hv10) <;> (refine cS 11 (cA Tryz.call24 (aValid_e a)) fun v11 hv11 => ?_; cases hv11) <;> refine xL 12 q_not ?_ <;> refine aL_end (nav ?_) <;> try dsimp only)
 (first | refine cCd ?_ ?_ | refine cC ?_ ?_) <;> intro hb12
 · rw [hv] at hb12; simp at hb12
 · refine nav ?_
   (refine aC_region ?_ <;> refine xL 14 (q_fldo 1 tFl25_0_LdI) ?_ <;> (refine yL 15 (q_ldo 1 tNa3_LbB) fun v15 hv15 => ?_; cases hv15) <;> refine xL 4 q_assign ?_ <;> refine aL_end (nav ?_) <;> try dsimp only)
   refine aC_mid (fun x : { x : Value × Value // x.1.oneCell' = true } => ⟨[(1, padd (sbase h1) 0, .val (padd (sbase h1) 0)), (2, padd (sbase h2) 0, .val (padd (sbase h2) 0)), (4, .int .i64 a.n, pInt a.n), (5, padd (sbase x.1.2) 0, .val (padd (sbase x.1.2) 0))], [(1, h1, .own 25 5 1 [pInt a.n, pInt a.syms, pInts a.start, pInts a.fin, pMvs a.moves]), (2, h2, .own 25 5 1 [pInt 0, pInt 0, .val (.slice none 0 0), .val (.slice none 0 0), .val (.slice none 0 0)]), (5, x.1.2, .own 25 5 1 [pInt (a.n + 1), pInt a.syms, pInts [a.n], pInts [a.n], .val x.1.1]), (26, x.1.1, .own 72 3 a.moves.length (a.moves.flatMap cMv))]⟩) ?_ ?_
   · (refine aC_draw (fun i => ([] : List Nat).elem i) [1] (by kernel_rfl) ?_ <;> refine xD 0 16 rfl q_move ?_ <;> refine xD 1 17 rfl q_add ?_ <;> refine xD 2 18 rfl (q_fldo 1 tFl25_1_LdI) ?_ <;> (refine yD 3 19 rfl (q_ldo 1 tNa3_LbB) fun v19 hv19 => ?_; cases hv19) <;> refine xD 4 20 rfl q_move ?_ <;> refine xD 6 22 rfl q_move ?_ <;> refine xD 8 24 rfl (q_fldo 1 tFl25_4_LdI) ?_ <;> (refine yD 9 25 rfl (q_ldo 1 tNa23_LdI) fun v25 hv25 => ?_; cases hv25) <;> (refine aD_four 5 7 10 12 (by kernel_rfl) ?_ ?_ ?_ ?_; rotate_right; (focus ((refine aW_run rfl fun w9 M9 N9 DQ back => ?_) <;> refine s_alloc [(.int .i64 0), (.int .i64 0), (.slice none 0 0), (.slice none 0 0), (.slice none 0 0)] 5 5 tZr25_LfD fun h5 => ?_ <;> refine aL_end (back _ (nrm ?_)) <;> (refine aD_three 5 7 10 (by kernel_rfl) ?_ ?_ ?_; rotate_right; (focus ((refine aW_run rfl fun w9 M9 N9 DQ back => ?_) <;> refine cO 26 (cA Tryz.call96 (cloneMv_e a.moves (by omega))) fun v26 ho26 => ?_ <;> refine aL_end (back _ (nrm ?_)) <;> (refine aD_two 5 7 (by kernel_rfl) ?_ ?_; rotate_right; (focus ((refine aW_run rfl fun w9 M9 N9 DQ back => ?_) <;> (refine s_lit1 (kk := 1) 23 tEl22_LdI fun h23 ho23 => ?_; refine aL_ent (En.freeze (l := 23) (t := 23) rfl rfl) fun _ => ?_; rw [show share (PV.own 3 1 1 [PV.val (.int .i64 a.n)]) = pInts [a.n] from rfl]) <;> refine aL_end (back _ (nrm ?_)) <;> (refine aD_one 5 (by kernel_rfl) ?_) <;> (refine aW_run rfl fun w9 M9 N9 DQ back => ?_) <;> (refine s_lit1 (kk := 1) 21 tEl22_LdI fun h21 ho21 => ?_; refine aL_ent (En.freeze (l := 21) (t := 21) rfl rfl) fun _ => ?_; rw [show share (PV.own 3 1 1 [PV.val (.int .i64 a.n)]) = pInts [a.n] from rfl]) <;> refine aL_end (back _ (nrm ?_)) <;> refine xE 11 27 rfl (q_build tSt25_LfD) ?_ <;> (refine aD_one 13 (by kernel_rfl) ?_) <;> (refine aW_run rfl fun w9 M9 N9 DQ back => ?_) <;> (refine s_sta 5 (m := 5) (by kernel_rfl) ?_ (h1 := by show (List.all [pInt (a.n + 1), pInt a.syms, pInts [a.n], pInts [a.n], PV.val v26] En.one) = true; simp only [List.all_cons, List.all_nil, Bool.and_true, Bool.and_eq_true]; exact ⟨rfl, rfl, rfl, rfl, ho26⟩)) <;> refine aL_end (back _ (nrm ?_)))); rotate_right; (focus ((refine aW_run rfl fun w9 M9 N9 DQ back => ?_) <;> (refine s_lit1 (kk := 1) 21 tEl22_LdI fun h21 ho21 => ?_; refine aL_ent (En.freeze (l := 21) (t := 21) rfl rfl) fun _ => ?_; rw [show share (PV.own 3 1 1 [PV.val (.int .i64 a.n)]) = pInts [a.n] from rfl]) <;> refine aL_end (back _ (nrm ?_)) <;> (refine aD_one 7 (by kernel_rfl) ?_) <;> (refine aW_run rfl fun w9 M9 N9 DQ back => ?_) <;> (refine s_lit1 (kk := 1) 23 tEl22_LdI fun h23 ho23 => ?_; refine aL_ent (En.freeze (l := 23) (t := 23) rfl rfl) fun _ => ?_; rw [show share (PV.own 3 1 1 [PV.val (.int .i64 a.n)]) = pInts [a.n] from rfl]) <;> refine aL_end (back _ (nrm ?_)) <;> refine xE 11 27 rfl (q_build tSt25_LfD) ?_ <;> (refine aD_one 13 (by kernel_rfl) ?_) <;> (refine aW_run rfl fun w9 M9 N9 DQ back => ?_) <;> (refine s_sta 5 (m := 5) (by kernel_rfl) ?_ (h1 := by show (List.all [pInt (a.n + 1), pInt a.syms, pInts [a.n], pInts [a.n], PV.val v26] En.one) = true; simp only [List.all_cons, List.all_nil, Bool.and_true, Bool.and_eq_true]; exact ⟨rfl, rfl, rfl, rfl, ho26⟩)) <;> refine aL_end (back _ (nrm ?_))))))); rotate_right; (focus ((refine aW_run rfl fun w9 M9 N9 DQ back => ?_) <;> (refine s_lit1 (kk := 1) 23 tEl22_LdI fun h23 ho23 => ?_; refine aL_ent (En.freeze (l := 23) (t := 23) rfl rfl) fun _ => ?_; rw [show share (PV.own 3 1 1 [PV.val (.int .i64 a.n)]) = pInts [a.n] from rfl]) <;> refine aL_end (back _ (nrm ?_)) <;> (refine aD_two 5 10 (by kernel_rfl) ?_ ?_; rotate_right; (focus ((refine aW_run rfl fun w9 M9 N9 DQ back => ?_) <;> refine cO 26 (cA Tryz.call96 (cloneMv_e a.moves (by omega))) fun v26 ho26 => ?_ <;> refine aL_end (back _ (nrm ?_)) <;> (refine aD_one 5 (by kernel_rfl) ?_) <;> (refine aW_run rfl fun w9 M9 N9 DQ back => ?_) <;> (refine s_lit1 (kk := 1) 21 tEl22_LdI fun h21 ho21 => ?_; refine aL_ent (En.freeze (l := 21) (t := 21) rfl rfl) fun _ => ?_; rw [show share (PV.own 3 1 1 [PV.val (.int .i64 a.n)]) = pInts [a.n] from rfl]) <;> refine aL_end (back _ (nrm ?_)) <;> refine xE 11 27 rfl (q_build tSt25_LfD) ?_ <;> (refine aD_one 13 (by kernel_rfl) ?_) <;> (refine aW_run rfl fun w9 M9 N9 DQ back => ?_) <;> (refine s_sta 5 (m := 5) (by kernel_rfl) ?_ (h1 := by show (List.all [pInt (a.n + 1), pInt a.syms, pInts [a.n], pInts [a.n], PV.val v26] En.one) = true; simp only [List.all_cons, List.all_nil, Bool.and_true, Bool.and_eq_true]; exact ⟨rfl, rfl, rfl, rfl, ho26⟩)) <;> refine aL_end (back _ (nrm ?_)))); rotate_right; (focus ((refine aW_run rfl fun w9 M9 N9 DQ back => ?_) <;> (refine s_lit1 (kk := 1) 21 tEl22_LdI fun h21 ho21 => ?_; refine aL_ent (En.freeze (l := 21) (t := 21) rfl rfl) fun _ => ?_; rw [show share (PV.own 3 1 1 [PV.val (.int .i64 a.n)]) = pInts [a.n] from rfl]) <;> refine aL_end (back _ (nrm ?_)) <;> (refine aD_one 10 (by kernel_rfl) ?_) <;> (refine aW_run rfl fun w9 M9 N9 DQ back => ?_) <;> refine cO 26 (cA Tryz.call96 (cloneMv_e a.moves (by omega))) fun v26 ho26 => ?_ <;> refine aL_end (back _ (nrm ?_)) <;> refine xE 11 27 rfl (q_build tSt25_LfD) ?_ <;> (refine aD_one 13 (by kernel_rfl) ?_) <;> (refine aW_run rfl fun w9 M9 N9 DQ back => ?_) <;> (refine s_sta 5 (m := 5) (by kernel_rfl) ?_ (h1 := by show (List.all [pInt (a.n + 1), pInt a.syms, pInts [a.n], pInts [a.n], PV.val v26] En.one) = true; simp only [List.all_cons, List.all_nil, Bool.and_true, Bool.and_eq_true]; exact ⟨rfl, rfl, rfl, rfl, ho26⟩)) <;> refine aL_end (back _ (nrm ?_))))))); rotate_right; (focus ((refine aW_run rfl fun w9 M9 N9 DQ back => ?_) <;> (refine s_lit1 (kk := 1) 21 tEl22_LdI fun h21 ho21 => ?_; refine aL_ent (En.freeze (l := 21) (t := 21) rfl rfl) fun _ => ?_; rw [show share (PV.own 3 1 1 [PV.val (.int .i64 a.n)]) = pInts [a.n] from rfl]) <;> refine aL_end (back _ (nrm ?_)) <;> (refine aD_two 7 10 (by kernel_rfl) ?_ ?_; rotate_right; (focus ((refine aW_run rfl fun w9 M9 N9 DQ back => ?_) <;> refine cO 26 (cA Tryz.call96 (cloneMv_e a.moves (by omega))) fun v26 ho26 => ?_ <;> refine aL_end (back _ (nrm ?_)) <;> (refine aD_one 7 (by kernel_rfl) ?_) <;> (refine aW_run rfl fun w9 M9 N9 DQ back => ?_) <;> (refine s_lit1 (kk := 1) 23 tEl22_LdI fun h23 ho23 => ?_; refine aL_ent (En.freeze (l := 23) (t := 23) rfl rfl) fun _ => ?_; rw [show share (PV.own 3 1 1 [PV.val (.int .i64 a.n)]) = pInts [a.n] from rfl]) <;> refine aL_end (back _ (nrm ?_)) <;> refine xE 11 27 rfl (q_build tSt25_LfD) ?_ <;> (refine aD_one 13 (by kernel_rfl) ?_) <;> (refine aW_run rfl fun w9 M9 N9 DQ back => ?_) <;> (refine s_sta 5 (m := 5) (by kernel_rfl) ?_ (h1 := by show (List.all [pInt (a.n + 1), pInt a.syms, pInts [a.n], pInts [a.n], PV.val v26] En.one) = true; simp only [List.all_cons, List.all_nil, Bool.and_true, Bool.and_eq_true]; exact ⟨rfl, rfl, rfl, rfl, ho26⟩)) <;> refine aL_end (back _ (nrm ?_)))); rotate_right; (focus ((refine aW_run rfl fun w9 M9 N9 DQ back => ?_) <;> (refine s_lit1 (kk := 1) 23 tEl22_LdI fun h23 ho23 => ?_; refine aL_ent (En.freeze (l := 23) (t := 23) rfl rfl) fun _ => ?_; rw [show share (PV.own 3 1 1 [PV.val (.int .i64 a.n)]) = pInts [a.n] from rfl]) <;> refine aL_end (back _ (nrm ?_)) <;> (refine aD_one 10 (by kernel_rfl) ?_) <;> (refine aW_run rfl fun w9 M9 N9 DQ back => ?_) <;> refine cO 26 (cA Tryz.call96 (cloneMv_e a.moves (by omega))) fun v26 ho26 => ?_ <;> refine aL_end (back _ (nrm ?_)) <;> refine xE 11 27 rfl (q_build tSt25_LfD) ?_ <;> (refine aD_one 13 (by kernel_rfl) ?_) <;> (refine aW_run rfl fun w9 M9 N9 DQ back => ?_) <;> (refine s_sta 5 (m := 5) (by kernel_rfl) ?_ (h1 := by show (List.all [pInt (a.n + 1), pInt a.syms, pInts [a.n], pInts [a.n], PV.val v26] En.one) = true; simp only [List.all_cons, List.all_nil, Bool.and_true, Bool.and_eq_true]; exact ⟨rfl, rfl, rfl, rfl, ho26⟩)) <;> refine aL_end (back _ (nrm ?_)))))))))); rotate_right; (focus ((refine aW_run rfl fun w9 M9 N9 DQ back => ?_) <;> refine cO 26 (cA Tryz.call96 (cloneMv_e a.moves (by omega))) fun v26 ho26 => ?_ <;> refine aL_end (back _ (nrm ?_)) <;> (refine aD_three 5 7 12 (by kernel_rfl) ?_ ?_ ?_; rotate_right; (focus ((refine aW_run rfl fun w9 M9 N9 DQ back => ?_) <;> refine s_alloc [(.int .i64 0), (.int .i64 0), (.slice none 0 0), (.slice none 0 0), (.slice none 0 0)] 5 5 tZr25_LfD fun h5 => ?_ <;> refine aL_end (back _ (nrm ?_)) <;> (refine aD_two 5 7 (by kernel_rfl) ?_ ?_; rotate_right; (focus ((refine aW_run rfl fun w9 M9 N9 DQ back => ?_) <;> (refine s_lit1 (kk := 1) 23 tEl22_LdI fun h23 ho23 => ?_; refine aL_ent (En.freeze (l := 23) (t := 23) rfl rfl) fun _ => ?_; rw [show share (PV.own 3 1 1 [PV.val (.int .i64 a.n)]) = pInts [a.n] from rfl]) <;> refine aL_end (back _ (nrm ?_)) <;> (refine aD_one 5 (by kernel_rfl) ?_) <;> (refine aW_run rfl fun w9 M9 N9 DQ back => ?_) <;> (refine s_lit1 (kk := 1) 21 tEl22_LdI fun h21 ho21 => ?_; refine aL_ent (En.freeze (l := 21) (t := 21) rfl rfl) fun _ => ?_; rw [show share (PV.own 3 1 1 [PV.val (.int .i64 a.n)]) = pInts [a.n] from rfl]) <;> refine aL_end (back _ (nrm ?_)) <;> refine xE 11 27 rfl (q_build tSt25_LfD) ?_ <;> (refine aD_one 13 (by kernel_rfl) ?_) <;> (refine aW_run rfl fun w9 M9 N9 DQ back => ?_) <;> (refine s_sta 5 (m := 5) (by kernel_rfl) ?_ (h1 := by show (List.all [pInt (a.n + 1), pInt a.syms, pInts [a.n], pInts [a.n], PV.val v26] En.one) = true; simp only [List.all_cons, List.all_nil, Bool.and_true, Bool.and_eq_true]; exact ⟨rfl, rfl, rfl, rfl, ho26⟩)) <;> refine aL_end (back _ (nrm ?_)))); rotate_right; (focus ((refine aW_run rfl fun w9 M9 N9 DQ back => ?_) <;> (refine s_lit1 (kk := 1) 21 tEl22_LdI fun h21 ho21 => ?_; refine aL_ent (En.freeze (l := 21) (t := 21) rfl rfl) fun _ => ?_; rw [show share (PV.own 3 1 1 [PV.val (.int .i64 a.n)]) = pInts [a.n] from rfl]) <;> refine aL_end (back _ (nrm ?_)) <;> (refine aD_one 7 (by kernel_rfl) ?_) <;> (refine aW_run rfl fun w9 M9 N9 DQ back => ?_) <;> (refine s_lit1 (kk := 1) 23 tEl22_LdI fun h23 ho23 => ?_; refine aL_ent (En.freeze (l := 23) (t := 23) rfl rfl) fun _ => ?_; rw [show share (PV.own 3 1 1 [PV.val (.int .i64 a.n)]) = pInts [a.n] from rfl]) <;> refine aL_end (back _ (nrm ?_)) <;> refine xE 11 27 rfl (q_build tSt25_LfD) ?_ <;> (refine aD_one 13 (by kernel_rfl) ?_) <;> (refine aW_run rfl fun w9 M9 N9 DQ back => ?_) <;> (refine s_sta 5 (m := 5) (by kernel_rfl) ?_ (h1 := by show (List.all [pInt (a.n + 1), pInt a.syms, pInts [a.n], pInts [a.n], PV.val v26] En.one) = true; simp only [List.all_cons, List.all_nil, Bool.and_true, Bool.and_eq_true]; exact ⟨rfl, rfl, rfl, rfl, ho26⟩)) <;> refine aL_end (back _ (nrm ?_))))))); rotate_right; (focus ((refine aW_run rfl fun w9 M9 N9 DQ back => ?_) <;> (refine s_lit1 (kk := 1) 23 tEl22_LdI fun h23 ho23 => ?_; refine aL_ent (En.freeze (l := 23) (t := 23) rfl rfl) fun _ => ?_; rw [show share (PV.own 3 1 1 [PV.val (.int .i64 a.n)]) = pInts [a.n] from rfl]) <;> refine aL_end (back _ (nrm ?_)) <;> (refine aD_two 5 12 (by kernel_rfl) ?_ ?_; rotate_right; (focus ((refine aW_run rfl fun w9 M9 N9 DQ back => ?_) <;> refine s_alloc [(.int .i64 0), (.int .i64 0), (.slice none 0 0), (.slice none 0 0), (.slice none 0 0)] 5 5 tZr25_LfD fun h5 => ?_ <;> refine aL_end (back _ (nrm ?_)) <;> (refine aD_one 5 (by kernel_rfl) ?_) <;> (refine aW_run rfl fun w9 M9 N9 DQ back => ?_) <;> (refine s_lit1 (kk := 1) 21 tEl22_LdI fun h21 ho21 => ?_; refine aL_ent (En.freeze (l := 21) (t := 21) rfl rfl) fun _ => ?_; rw [show share (PV.own 3 1 1 [PV.val (.int .i64 a.n)]) = pInts [a.n] from rfl]) <;> refine aL_end (back _ (nrm ?_)) <;> refine xE 11 27 rfl (q_build tSt25_LfD) ?_ <;> (refine aD_one 13 (by kernel_rfl) ?_) <;> (refine aW_run rfl fun w9 M9 N9 DQ back => ?_) <;> (refine s_sta 5 (m := 5) (by kernel_rfl) ?_ (h1 := by show (List.all [pInt (a.n + 1), pInt a.syms, pInts [a.n], pInts [a.n], PV.val v26] En.one) = true; simp only [List.all_cons, List.all_nil, Bool.and_true, Bool.and_eq_true]; exact ⟨rfl, rfl, rfl, rfl, ho26⟩)) <;> refine aL_end (back _ (nrm ?_)))); rotate_right; (focus ((refine aW_run rfl fun w9 M9 N9 DQ back => ?_) <;> (refine s_lit1 (kk := 1) 21 tEl22_LdI fun h21 ho21 => ?_; refine aL_ent (En.freeze (l := 21) (t := 21) rfl rfl) fun _ => ?_; rw [show share (PV.own 3 1 1 [PV.val (.int .i64 a.n)]) = pInts [a.n] from rfl]) <;> refine aL_end (back _ (nrm ?_)) <;> refine xD 11 27 rfl (q_build tSt25_LfD) ?_ <;> (refine aD_one 12 (by kernel_rfl) ?_) <;> (refine aW_run rfl fun w9 M9 N9 DQ back => ?_) <;> refine s_alloc [(.int .i64 0), (.int .i64 0), (.slice none 0 0), (.slice none 0 0), (.slice none 0 0)] 5 5 tZr25_LfD fun h5 => ?_ <;> refine aL_end (back _ (nrm ?_)) <;> (refine aD_one 13 (by kernel_rfl) ?_) <;> (refine aW_run rfl fun w9 M9 N9 DQ back => ?_) <;> (refine s_sta 5 (m := 5) (by kernel_rfl) ?_ (h1 := by show (List.all [pInt (a.n + 1), pInt a.syms, pInts [a.n], pInts [a.n], PV.val v26] En.one) = true; simp only [List.all_cons, List.all_nil, Bool.and_true, Bool.and_eq_true]; exact ⟨rfl, rfl, rfl, rfl, ho26⟩)) <;> refine aL_end (back _ (nrm ?_))))))); rotate_right; (focus ((refine aW_run rfl fun w9 M9 N9 DQ back => ?_) <;> (refine s_lit1 (kk := 1) 21 tEl22_LdI fun h21 ho21 => ?_; refine aL_ent (En.freeze (l := 21) (t := 21) rfl rfl) fun _ => ?_; rw [show share (PV.own 3 1 1 [PV.val (.int .i64 a.n)]) = pInts [a.n] from rfl]) <;> refine aL_end (back _ (nrm ?_)) <;> (refine aD_two 7 12 (by kernel_rfl) ?_ ?_; rotate_right; (focus ((refine aW_run rfl fun w9 M9 N9 DQ back => ?_) <;> refine s_alloc [(.int .i64 0), (.int .i64 0), (.slice none 0 0), (.slice none 0 0), (.slice none 0 0)] 5 5 tZr25_LfD fun h5 => ?_ <;> refine aL_end (back _ (nrm ?_)) <;> (refine aD_one 7 (by kernel_rfl) ?_) <;> (refine aW_run rfl fun w9 M9 N9 DQ back => ?_) <;> (refine s_lit1 (kk := 1) 23 tEl22_LdI fun h23 ho23 => ?_; refine aL_ent (En.freeze (l := 23) (t := 23) rfl rfl) fun _ => ?_; rw [show share (PV.own 3 1 1 [PV.val (.int .i64 a.n)]) = pInts [a.n] from rfl]) <;> refine aL_end (back _ (nrm ?_)) <;> refine xE 11 27 rfl (q_build tSt25_LfD) ?_ <;> (refine aD_one 13 (by kernel_rfl) ?_) <;> (refine aW_run rfl fun w9 M9 N9 DQ back => ?_) <;> (refine s_sta 5 (m := 5) (by kernel_rfl) ?_ (h1 := by show (List.all [pInt (a.n + 1), pInt a.syms, pInts [a.n], pInts [a.n], PV.val v26] En.one) = true; simp only [List.all_cons, List.all_nil, Bool.and_true, Bool.and_eq_true]; exact ⟨rfl, rfl, rfl, rfl, ho26⟩)) <;> refine aL_end (back _ (nrm ?_)))); rotate_right; (focus ((refine aW_run rfl fun w9 M9 N9 DQ back => ?_) <;> (refine s_lit1 (kk := 1) 23 tEl22_LdI fun h23 ho23 => ?_; refine aL_ent (En.freeze (l := 23) (t := 23) rfl rfl) fun _ => ?_; rw [show share (PV.own 3 1 1 [PV.val (.int .i64 a.n)]) = pInts [a.n] from rfl]) <;> refine aL_end (back _ (nrm ?_)) <;> refine xD 11 27 rfl (q_build tSt25_LfD) ?_ <;> (refine aD_one 12 (by kernel_rfl) ?_) <;> (refine aW_run rfl fun w9 M9 N9 DQ back => ?_) <;> refine s_alloc [(.int .i64 0), (.int .i64 0), (.slice none 0 0), (.slice none 0 0), (.slice none 0 0)] 5 5 tZr25_LfD fun h5 => ?_ <;> refine aL_end (back _ (nrm ?_)) <;> (refine aD_one 13 (by kernel_rfl) ?_) <;> (refine aW_run rfl fun w9 M9 N9 DQ back => ?_) <;> (refine s_sta 5 (m := 5) (by kernel_rfl) ?_ (h1 := by show (List.all [pInt (a.n + 1), pInt a.syms, pInts [a.n], pInts [a.n], PV.val v26] En.one) = true; simp only [List.all_cons, List.all_nil, Bool.and_true, Bool.and_eq_true]; exact ⟨rfl, rfl, rfl, rfl, ho26⟩)) <;> refine aL_end (back _ (nrm ?_)))))))))); rotate_right; (focus ((refine aW_run rfl fun w9 M9 N9 DQ back => ?_) <;> (refine s_lit1 (kk := 1) 23 tEl22_LdI fun h23 ho23 => ?_; refine aL_ent (En.freeze (l := 23) (t := 23) rfl rfl) fun _ => ?_; rw [show share (PV.own 3 1 1 [PV.val (.int .i64 a.n)]) = pInts [a.n] from rfl]) <;> refine aL_end (back _ (nrm ?_)) <;> (refine aD_three 5 10 12 (by kernel_rfl) ?_ ?_ ?_; rotate_right; (focus ((refine aW_run rfl fun w9 M9 N9 DQ back => ?_) <;> refine s_alloc [(.int .i64 0), (.int .i64 0), (.slice none 0 0), (.slice none 0 0), (.slice none 0 0)] 5 5 tZr25_LfD fun h5 => ?_ <;> refine aL_end (back _ (nrm ?_)) <;> (refine aD_two 5 10 (by kernel_rfl) ?_ ?_; rotate_right; (focus ((refine aW_run rfl fun w9 M9 N9 DQ back => ?_) <;> refine cO 26 (cA Tryz.call96 (cloneMv_e a.moves (by omega))) fun v26 ho26 => ?_ <;> refine aL_end (back _ (nrm ?_)) <;> (refine aD_one 5 (by kernel_rfl) ?_) <;> (refine aW_run rfl fun w9 M9 N9 DQ back => ?_) <;> (refine s_lit1 (kk := 1) 21 tEl22_LdI fun h21 ho21 => ?_; refine aL_ent (En.freeze (l := 21) (t := 21) rfl rfl) fun _ => ?_; rw [show share (PV.own 3 1 1 [PV.val (.int .i64 a.n)]) = pInts [a.n] from rfl]) <;> refine aL_end (back _ (nrm ?_)) <;> refine xE 11 27 rfl (q_build tSt25_LfD) ?_ <;> (refine aD_one 13 (by kernel_rfl) ?_) <;> (refine aW_run rfl fun w9 M9 N9 DQ back => ?_) <;> (refine s_sta 5 (m := 5) (by kernel_rfl) ?_ (h1 := by show (List.all [pInt (a.n + 1), pInt a.syms, pInts [a.n], pInts [a.n], PV.val v26] En.one) = true; simp only [List.all_cons, List.all_nil, Bool.and_true, Bool.and_eq_true]; exact ⟨rfl, rfl, rfl, rfl, ho26⟩)) <;> refine aL_end (back _ (nrm ?_)))); rotate_right; (focus ((refine aW_run rfl fun w9 M9 N9 DQ back => ?_) <;> (refine s_lit1 (kk := 1) 21 tEl22_LdI fun h21 ho21 => ?_; refine aL_ent (En.freeze (l := 21) (t := 21) rfl rfl) fun _ => ?_; rw [show share (PV.own 3 1 1 [PV.val (.int .i64 a.n)]) = pInts [a.n] from rfl]) <;> refine aL_end (back _ (nrm ?_)) <;> (refine aD_one 10 (by kernel_rfl) ?_) <;> (refine aW_run rfl fun w9 M9 N9 DQ back => ?_) <;> refine cO 26 (cA Tryz.call96 (cloneMv_e a.moves (by omega))) fun v26 ho26 => ?_ <;> refine aL_end (back _ (nrm ?_)) <;> refine xE 11 27 rfl (q_build tSt25_LfD) ?_ <;> (refine aD_one 13 (by kernel_rfl) ?_) <;> (refine aW_run rfl fun w9 M9 N9 DQ back => ?_) <;> (refine s_sta 5 (m := 5) (by kernel_rfl) ?_ (h1 := by show (List.all [pInt (a.n + 1), pInt a.syms, pInts [a.n], pInts [a.n], PV.val v26] En.one) = true; simp only [List.all_cons, List.all_nil, Bool.and_true, Bool.and_eq_true]; exact ⟨rfl, rfl, rfl, rfl, ho26⟩)) <;> refine aL_end (back _ (nrm ?_))))))); rotate_right; (focus ((refine aW_run rfl fun w9 M9 N9 DQ back => ?_) <;> refine cO 26 (cA Tryz.call96 (cloneMv_e a.moves (by omega))) fun v26 ho26 => ?_ <;> refine aL_end (back _ (nrm ?_)) <;> (refine aD_two 5 12 (by kernel_rfl) ?_ ?_; rotate_right; (focus ((refine aW_run rfl fun w9 M9 N9 DQ back => ?_) <;> refine s_alloc [(.int .i64 0), (.int .i64 0), (.slice none 0 0), (.slice none 0 0), (.slice none 0 0)] 5 5 tZr25_LfD fun h5 => ?_ <;> refine aL_end (back _ (nrm ?_)) <;> (refine aD_one 5 (by kernel_rfl) ?_) <;> (refine aW_run rfl fun w9 M9 N9 DQ back => ?_) <;> (refine s_lit1 (kk := 1) 21 tEl22_LdI fun h21 ho21 => ?_; refine aL_ent (En.freeze (l := 21) (t := 21) rfl rfl) fun _ => ?_; rw [show share (PV.own 3 1 1 [PV.val (.int .i64 a.n)]) = pInts [a.n] from rfl]) <;> refine aL_end (back _ (nrm ?_)) <;> refine xE 11 27 rfl (q_build tSt25_LfD) ?_ <;> (refine aD_one 13 (by kernel_rfl) ?_) <;> (refine aW_run rfl fun w9 M9 N9 DQ back => ?_) <;> (refine s_sta 5 (m := 5) (by kernel_rfl) ?_ (h1 := by show (List.all [pInt (a.n + 1), pInt a.syms, pInts [a.n], pInts [a.n], PV.val v26] En.one) = true; simp only [List.all_cons, List.all_nil, Bool.and_true, Bool.and_eq_true]; exact ⟨rfl, rfl, rfl, rfl, ho26⟩)) <;> refine aL_end (back _ (nrm ?_)))); rotate_right; (focus ((refine aW_run rfl fun w9 M9 N9 DQ back => ?_) <;> (refine s_lit1 (kk := 1) 21 tEl22_LdI fun h21 ho21 => ?_; refine aL_ent (En.freeze (l := 21) (t := 21) rfl rfl) fun _ => ?_; rw [show share (PV.own 3 1 1 [PV.val (.int .i64 a.n)]) = pInts [a.n] from rfl]) <;> refine aL_end (back _ (nrm ?_)) <;> refine xD 11 27 rfl (q_build tSt25_LfD) ?_ <;> (refine aD_one 12 (by kernel_rfl) ?_) <;> (refine aW_run rfl fun w9 M9 N9 DQ back => ?_) <;> refine s_alloc [(.int .i64 0), (.int .i64 0), (.slice none 0 0), (.slice none 0 0), (.slice none 0 0)] 5 5 tZr25_LfD fun h5 => ?_ <;> refine aL_end (back _ (nrm ?_)) <;> (refine aD_one 13 (by kernel_rfl) ?_) <;> (refine aW_run rfl fun w9 M9 N9 DQ back => ?_) <;> (refine s_sta 5 (m := 5) (by kernel_rfl) ?_ (h1 := by show (List.all [pInt (a.n + 1), pInt a.syms, pInts [a.n], pInts [a.n], PV.val v26] En.one) = true; simp only [List.all_cons, List.all_nil, Bool.and_true, Bool.and_eq_true]; exact ⟨rfl, rfl, rfl, rfl, ho26⟩)) <;> refine aL_end (back _ (nrm ?_))))))); rotate_right; (focus ((refine aW_run rfl fun w9 M9 N9 DQ back => ?_) <;> (refine s_lit1 (kk := 1) 21 tEl22_LdI fun h21 ho21 => ?_; refine aL_ent (En.freeze (l := 21) (t := 21) rfl rfl) fun _ => ?_; rw [show share (PV.own 3 1 1 [PV.val (.int .i64 a.n)]) = pInts [a.n] from rfl]) <;> refine aL_end (back _ (nrm ?_)) <;> (refine aD_two 10 12 (by kernel_rfl) ?_ ?_; rotate_right; (focus ((refine aW_run rfl fun w9 M9 N9 DQ back => ?_) <;> refine s_alloc [(.int .i64 0), (.int .i64 0), (.slice none 0 0), (.slice none 0 0), (.slice none 0 0)] 5 5 tZr25_LfD fun h5 => ?_ <;> refine aL_end (back _ (nrm ?_)) <;> (refine aD_one 10 (by kernel_rfl) ?_) <;> (refine aW_run rfl fun w9 M9 N9 DQ back => ?_) <;> refine cO 26 (cA Tryz.call96 (cloneMv_e a.moves (by omega))) fun v26 ho26 => ?_ <;> refine aL_end (back _ (nrm ?_)) <;> refine xE 11 27 rfl (q_build tSt25_LfD) ?_ <;> (refine aD_one 13 (by kernel_rfl) ?_) <;> (refine aW_run rfl fun w9 M9 N9 DQ back => ?_) <;> (refine s_sta 5 (m := 5) (by kernel_rfl) ?_ (h1 := by show (List.all [pInt (a.n + 1), pInt a.syms, pInts [a.n], pInts [a.n], PV.val v26] En.one) = true; simp only [List.all_cons, List.all_nil, Bool.and_true, Bool.and_eq_true]; exact ⟨rfl, rfl, rfl, rfl, ho26⟩)) <;> refine aL_end (back _ (nrm ?_)))); rotate_right; (focus ((refine aW_run rfl fun w9 M9 N9 DQ back => ?_) <;> refine cO 26 (cA Tryz.call96 (cloneMv_e a.moves (by omega))) fun v26 ho26 => ?_ <;> refine aL_end (back _ (nrm ?_)) <;> refine xD 11 27 rfl (q_build tSt25_LfD) ?_ <;> (refine aD_one 12 (by kernel_rfl) ?_) <;> (refine aW_run rfl fun w9 M9 N9 DQ back => ?_) <;> refine s_alloc [(.int .i64 0), (.int .i64 0), (.slice none 0 0), (.slice none 0 0), (.slice none 0 0)] 5 5 tZr25_LfD fun h5 => ?_ <;> refine aL_end (back _ (nrm ?_)) <;> (refine aD_one 13 (by kernel_rfl) ?_) <;> (refine aW_run rfl fun w9 M9 N9 DQ back => ?_) <;> (refine s_sta 5 (m := 5) (by kernel_rfl) ?_ (h1 := by show (List.all [pInt (a.n + 1), pInt a.syms, pInts [a.n], pInts [a.n], PV.val v26] En.one) = true; simp only [List.all_cons, List.all_nil, Bool.and_true, Bool.and_eq_true]; exact ⟨rfl, rfl, rfl, rfl, ho26⟩)) <;> refine aL_end (back _ (nrm ?_)))))))))); rotate_right; (focus ((refine aW_run rfl fun w9 M9 N9 DQ back => ?_) <;> (refine s_lit1 (kk := 1) 21 tEl22_LdI fun h21 ho21 => ?_; refine aL_ent (En.freeze (l := 21) (t := 21) rfl rfl) fun _ => ?_; rw [show share (PV.own 3 1 1 [PV.val (.int .i64 a.n)]) = pInts [a.n] from rfl]) <;> refine aL_end (back _ (nrm ?_)) <;> (refine aD_three 7 10 12 (by kernel_rfl) ?_ ?_ ?_; rotate_right; (focus ((refine aW_run rfl fun w9 M9 N9 DQ back => ?_) <;> refine s_alloc [(.int .i64 0), (.int .i64 0), (.slice none 0 0), (.slice none 0 0), (.slice none 0 0)] 5 5 tZr25_LfD fun h5 => ?_ <;> refine aL_end (back _ (nrm ?_)) <;> (refine aD_two 7 10 (by kernel_rfl) ?_ ?_; rotate_right; (focus ((refine aW_run rfl fun w9 M9 N9 DQ back => ?_) <;> refine cO 26 (cA Tryz.call96 (cloneMv_e a.moves (by omega))) fun v26 ho26 => ?_ <;> refine aL_end (back _ (nrm ?_)) <;> (refine aD_one 7 (by kernel_rfl) ?_) <;> (refine aW_run rfl fun w9 M9 N9 DQ back => ?_) <;> (refine s_lit1 (kk := 1) 23 tEl22_LdI fun h23 ho23 => ?_; refine aL_ent (En.freeze (l := 23) (t := 23) rfl rfl) fun _ => ?_; rw [show share (PV.own 3 1 1 [PV.val (.int .i64 a.n)]) = pInts [a.n] from rfl]) <;> refine aL_end (back _ (nrm ?_)) <;> refine xE 11 27 rfl (q_build tSt25_LfD) ?_ <;> (refine aD_one 13 (by kernel_rfl) ?_) <;> (refine aW_run rfl fun w9 M9 N9 DQ back => ?_) <;> (refine s_sta 5 (m := 5) (by kernel_rfl) ?_ (h1 := by show (List.all [pInt (a.n + 1), pInt a.syms, pInts [a.n], pInts [a.n], PV.val v26] En.one) = true; simp only [List.all_cons, List.all_nil, Bool.and_true, Bool.and_eq_true]; exact ⟨rfl, rfl, rfl, rfl, ho26⟩)) <;> refine aL_end (back _ (nrm ?_)))); rotate_right; (focus ((refine aW_run rfl fun w9 M9 N9 DQ back => ?_) <;> (refine s_lit1 (kk := 1) 23 tEl22_LdI fun h23 ho23 => ?_; refine aL_ent (En.freeze (l := 23) (t := 23) rfl rfl) fun _ => ?_; rw [show share (PV.own 3 1 1 [PV.val (.int .i64 a.n)]) = pInts [a.n] from rfl]) <;> refine aL_end (back _ (nrm ?_)) <;> (refine aD_one 10 (by kernel_rfl) ?_) <;> (refine aW_run rfl fun w9 M9 N9 DQ back => ?_) <;> refine cO 26 (cA Tryz.call96 (cloneMv_e a.moves (by omega))) fun v26 ho26 => ?_ <;> refine aL_end (back _ (nrm ?_)) <;> refine xE 11 27 rfl (q_build tSt25_LfD) ?_ <;> (refine aD_one 13 (by kernel_rfl) ?_) <;> (refine aW_run rfl fun w9 M9 N9 DQ back => ?_) <;> (refine s_sta 5 (m := 5) (by kernel_rfl) ?_ (h1 := by show (List.all [pInt (a.n + 1), pInt a.syms, pInts [a.n], pInts [a.n], PV.val v26] En.one) = true; simp only [List.all_cons, List.all_nil, Bool.and_true, Bool.and_eq_true]; exact ⟨rfl, rfl, rfl, rfl, ho26⟩)) <;> refine aL_end (back _ (nrm ?_))))))); rotate_right; (focus ((refine aW_run rfl fun w9 M9 N9 DQ back => ?_) <;> refine cO 26 (cA Tryz.call96 (cloneMv_e a.moves (by omega))) fun v26 ho26 => ?_ <;> refine aL_end (back _ (nrm ?_)) <;> (refine aD_two 7 12 (by kernel_rfl) ?_ ?_; rotate_right; (focus ((refine aW_run rfl fun w9 M9 N9 DQ back => ?_) <;> refine s_alloc [(.int .i64 0), (.int .i64 0), (.slice none 0 0), (.slice none 0 0), (.slice none 0 0)] 5 5 tZr25_LfD fun h5 => ?_ <;> refine aL_end (back _ (nrm ?_)) <;> (refine aD_one 7 (by kernel_rfl) ?_) <;> (refine aW_run rfl fun w9 M9 N9 DQ back => ?_) <;> (refine s_lit1 (kk := 1) 23 tEl22_LdI fun h23 ho23 => ?_; refine aL_ent (En.freeze (l := 23) (t := 23) rfl rfl) fun _ => ?_; rw [show share (PV.own 3 1 1 [PV.val (.int .i64 a.n)]) = pInts [a.n] from rfl]) <;> refine aL_end (back _ (nrm ?_)) <;> refine xE 11 27 rfl (q_build tSt25_LfD) ?_ <;> (refine aD_one 13 (by kernel_rfl) ?_) <;> (refine aW_run rfl fun w9 M9 N9 DQ back => ?_) <;> (refine s_sta 5 (m := 5) (by kernel_rfl) ?_ (h1 := by show (List.all [pInt (a.n + 1), pInt a.syms, pInts [a.n], pInts [a.n], PV.val v26] En.one) = true; simp only [List.all_cons, List.all_nil, Bool.and_true, Bool.and_eq_true]; exact ⟨rfl, rfl, rfl, rfl, ho26⟩)) <;> refine aL_end (back _ (nrm ?_)))); rotate_right; (focus ((refine aW_run rfl fun w9 M9 N9 DQ back => ?_) <;> (refine s_lit1 (kk := 1) 23 tEl22_LdI fun h23 ho23 => ?_; refine aL_ent (En.freeze (l := 23) (t := 23) rfl rfl) fun _ => ?_; rw [show share (PV.own 3 1 1 [PV.val (.int .i64 a.n)]) = pInts [a.n] from rfl]) <;> refine aL_end (back _ (nrm ?_)) <;> refine xD 11 27 rfl (q_build tSt25_LfD) ?_ <;> (refine aD_one 12 (by kernel_rfl) ?_) <;> (refine aW_run rfl fun w9 M9 N9 DQ back => ?_) <;> refine s_alloc [(.int .i64 0), (.int .i64 0), (.slice none 0 0), (.slice none 0 0), (.slice none 0 0)] 5 5 tZr25_LfD fun h5 => ?_ <;> refine aL_end (back _ (nrm ?_)) <;> (refine aD_one 13 (by kernel_rfl) ?_) <;> (refine aW_run rfl fun w9 M9 N9 DQ back => ?_) <;> (refine s_sta 5 (m := 5) (by kernel_rfl) ?_ (h1 := by show (List.all [pInt (a.n + 1), pInt a.syms, pInts [a.n], pInts [a.n], PV.val v26] En.one) = true; simp only [List.all_cons, List.all_nil, Bool.and_true, Bool.and_eq_true]; exact ⟨rfl, rfl, rfl, rfl, ho26⟩)) <;> refine aL_end (back _ (nrm ?_))))))); rotate_right; (focus ((refine aW_run rfl fun w9 M9 N9 DQ back => ?_) <;> (refine s_lit1 (kk := 1) 23 tEl22_LdI fun h23 ho23 => ?_; refine aL_ent (En.freeze (l := 23) (t := 23) rfl rfl) fun _ => ?_; rw [show share (PV.own 3 1 1 [PV.val (.int .i64 a.n)]) = pInts [a.n] from rfl]) <;> refine aL_end (back _ (nrm ?_)) <;> (refine aD_two 10 12 (by kernel_rfl) ?_ ?_; rotate_right; (focus ((refine aW_run rfl fun w9 M9 N9 DQ back => ?_) <;> refine s_alloc [(.int .i64 0), (.int .i64 0), (.slice none 0 0), (.slice none 0 0), (.slice none 0 0)] 5 5 tZr25_LfD fun h5 => ?_ <;> refine aL_end (back _ (nrm ?_)) <;> (refine aD_one 10 (by kernel_rfl) ?_) <;> (refine aW_run rfl fun w9 M9 N9 DQ back => ?_) <;> refine cO 26 (cA Tryz.call96 (cloneMv_e a.moves (by omega))) fun v26 ho26 => ?_ <;> refine aL_end (back _ (nrm ?_)) <;> refine xE 11 27 rfl (q_build tSt25_LfD) ?_ <;> (refine aD_one 13 (by kernel_rfl) ?_) <;> (refine aW_run rfl fun w9 M9 N9 DQ back => ?_) <;> (refine s_sta 5 (m := 5) (by kernel_rfl) ?_ (h1 := by show (List.all [pInt (a.n + 1), pInt a.syms, pInts [a.n], pInts [a.n], PV.val v26] En.one) = true; simp only [List.all_cons, List.all_nil, Bool.and_true, Bool.and_eq_true]; exact ⟨rfl, rfl, rfl, rfl, ho26⟩)) <;> refine aL_end (back _ (nrm ?_)))); rotate_right; (focus ((refine aW_run rfl fun w9 M9 N9 DQ back => ?_) <;> refine cO 26 (cA Tryz.call96 (cloneMv_e a.moves (by omega))) fun v26 ho26 => ?_ <;> refine aL_end (back _ (nrm ?_)) <;> refine xD 11 27 rfl (q_build tSt25_LfD) ?_ <;> (refine aD_one 12 (by kernel_rfl) ?_) <;> (refine aW_run rfl fun w9 M9 N9 DQ back => ?_) <;> refine s_alloc [(.int .i64 0), (.int .i64 0), (.slice none 0 0), (.slice none 0 0), (.slice none 0 0)] 5 5 tZr25_LfD fun h5 => ?_ <;> refine aL_end (back _ (nrm ?_)) <;> (refine aD_one 13 (by kernel_rfl) ?_) <;> (refine aW_run rfl fun w9 M9 N9 DQ back => ?_) <;> (refine s_sta 5 (m := 5) (by kernel_rfl) ?_ (h1 := by show (List.all [pInt (a.n + 1), pInt a.syms, pInts [a.n], pInts [a.n], PV.val v26] En.one) = true; simp only [List.all_cons, List.all_nil, Bool.and_true, Bool.and_eq_true]; exact ⟨rfl, rfl, rfl, rfl, ho26⟩)) <;> refine aL_end (back _ (nrm ?_))))))))))) <;> refine aD_end (by kernel_rfl) (nav ?_) <;> try dsimp only) <;> (
      exact aN_join ⟨(v26, h5), ho26⟩ ⟨rfl, rfl, rfl, rfl, trivial⟩ ⟨rfl, rfl, rfl, rfl, trivial⟩)
   · rintro ⟨⟨v26, h5⟩, ho26⟩
     dsimp only at ho26 ⊢
     refine aC_ent (relabel (l := 26) 301 rfl rfl) fun _ => ?_
     refine aC_ent (recast (l := 301) (p' := .own 72 3 (a.moves ++ stMv a.n (a.start.take 0)).length ((a.moves ++ stMv a.n (a.start.take 0)).flatMap cMv)) rfl (by rw [show stMv a.n (a.start.take 0) = [] from rfl, List.append_nil])) fun _ => ?_
     refine nav ?_
     (refine aC_region ?_ <;> refine xL 28 (q_fldo 1 tFl25_2_LdI) ?_ <;> (refine yL 29 (q_ldo 1 tNa22_LdI) fun v29 hv29 => ?_; cases hv29) <;> refine xL 30 (q_len tSl22_LbB) ?_ <;> refine xL 31 q_move ?_ <;> refine aL_end (nav ?_) <;> try dsimp only)
     refine aC_loop (ι := { q : Nat × Value // q.1 ≤ a.start.length ∧ q.2.oneCell' = true }) (fun k => ⟨[(1, _, _), (2, _, _), (4, _, _), (5, _, _), (29, _, _), (30, _, _), (31, .int .i64 k.1.1, pInt k.1.1)], [(1, _, _), (2, _, _), (5, h5, .own 25 5 1 [pInt (a.n + 1), pInt a.syms, pInts [a.n], pInts [a.n], .val k.1.2]), (301, k.1.2, .own 72 3 (a.moves ++ stMv a.n (a.start.take k.1.1)).length ((a.moves ++ stMv a.n (a.start.take k.1.1)).flatMap cMv))]⟩) (fun k => a.start.length - k.1.1) ⟨(0, v26), Nat.zero_le _, ho26⟩ (fun a w H => H.weaken ⟨rfl, rfl, rfl, rfl, rfl, rfl, rfl, trivial⟩ ⟨rfl, rfl, rfl, rfl, trivial⟩) ?_
     rintro ⟨⟨k, hM⟩, hk, hMo⟩
     dsimp only
     dsimp only at hk hMo
     have hl1 : (a.moves ++ stMv a.n (a.start.take k)).length ≤ 30000 := by unfold stMv; rw [List.length_append, List.length_map, List.length_take]; omega
     refine nav ?_
     (refine aC_region ?_ <;> refine xL 32 q_lss ?_ <;> refine aL_end (nav ?_) <;> try dsimp only)
     (first | refine cCd ?_ ?_ | refine cC ?_ ?_) <;> intro hb32
     · first
       | exact Bool.noConfusion hb32
       | (
        obtain ⟨x, hx⟩ := get_some (show k < a.start.length by omega)
        have e1 := map_at (f := pInt) hx
        refine nav ?_
        (refine aC_region ?_ <;> refine xL 33 (q_idxN tSl22_LbB) ?_ <;> (refine yL 34 (q_ld tNa3_LbB) fun v34 hv34 => ?_; cases hv34) <;> refine xL 7 q_assign ?_ <;> refine aL_end (nav ?_) <;> try dsimp only)
        (refine aC_region ?_ <;> refine xL 35 (q_fldo 5 tFl25_4_LdI) ?_ <;> (refine yL 36 (q_ldo 5 tNa23_LdI) fun v36 hv36 => ?_; cases hv36) <;> refine xL 37 q_move ?_ <;> refine xL 38 q_move ?_ <;> refine xL 39 (q_build tSt72_LfD) ?_ <;> refine s_lit1a 40 tEl23_LdR fun h40 ho40 => ?_ <;> (refine s_app 301 40 41 tEl23_LdR fun h41 ho41 => ?_; refine aL_ent (relabel (l := 41) 301 rfl rfl) fun _ => ?_; refine aL_ent (recast (l := 301) rfl ((snoc_mv _ (a.moves ++ stMv a.n (a.start.take k)) ⟨a.n, x, -1⟩).trans (by rw [List.append_assoc, ← stMv_snoc a.n hx]))) fun _ => ?_) <;> refine xL 42 (q_fldo 5 tFl25_4_LdI) ?_ <;> refine s_st 5 tNa23_LdI tSz23_LdR ?_ <;> refine aL_end (nav ?_) <;> try dsimp only)
        (refine aC_region ?_ <;> refine xL 43 q_add ?_ <;> refine xL 31 q_move ?_ <;> refine aL_end (nav ?_) <;> try dsimp only)
        refine aN_again (
         ⟨(k + 1, h41), lt_of_get hx, ho41⟩
         ) (by dsimp only; omega) ⟨rfl, rfl, rfl, rfl, rfl, rfl, rfl, trivial⟩ ⟨rfl, rfl, rfl, rfl, trivial⟩)
     · first
       | exact Bool.noConfusion hb32
       | (
        rw [List.take_of_length_le (show a.start.length ≤ k by omega)]
        rw [show a.moves ++ stMv a.n a.start = a.moves ++ stMv a.n a.start ++ fiMv a.n (a.fin.take 0) from (List.append_nil _).symm]
        refine nav ?_
        (refine aC_region ?_ <;> refine xL 44 (q_fldo 1 tFl25_3_LdI) ?_ <;> (refine yL 45 (q_ldo 1 tNa22_LdI) fun v45 hv45 => ?_; cases hv45) <;> refine xL 46 (q_len tSl22_LbB) ?_ <;> refine xL 47 q_move ?_ <;> refine aL_end (nav ?_) <;> try dsimp only)
        refine aC_loop (ι := { q : Nat × Value // q.1 ≤ a.fin.length ∧ q.2.oneCell' = true }) (fun k => ⟨[(1, _, _), (2, _, _), (4, _, _), (5, _, _), (45, _, _), (46, _, _), (47, .int .i64 k.1.1, pInt k.1.1)], [(1, _, _), (2, _, _), (5, h5, .own 25 5 1 [pInt (a.n + 1), pInt a.syms, pInts [a.n], pInts [a.n], .val k.1.2]), (301, k.1.2, .own 72 3 (a.moves ++ stMv a.n a.start ++ fiMv a.n (a.fin.take k.1.1)).length ((a.moves ++ stMv a.n a.start ++ fiMv a.n (a.fin.take k.1.1)).flatMap cMv))]⟩) (fun k => a.fin.length - k.1.1) ⟨(0, hM), Nat.zero_le _, hMo⟩ (fun a w H => H.weaken ⟨rfl, rfl, rfl, rfl, rfl, rfl, rfl, trivial⟩ ⟨rfl, rfl, rfl, rfl, trivial⟩) ?_
        rintro ⟨⟨j, hM2⟩, hj, hM2o⟩
        dsimp only
        dsimp only at hj hM2o
        have hl2 : (a.moves ++ stMv a.n a.start ++ fiMv a.n (a.fin.take j)).length ≤ 30000 := by unfold stMv fiMv; rw [List.length_append, List.length_append, List.length_map, List.length_map, List.length_take]; omega
        refine nav ?_
        (refine aC_region ?_ <;> refine xL 48 q_lss ?_ <;> refine aL_end (nav ?_) <;> try dsimp only)
        (first | refine cCd ?_ ?_ | refine cC ?_ ?_) <;> intro hb48
        · first
          | exact Bool.noConfusion hb48
          | (
           obtain ⟨y, hy⟩ := get_some (show j < a.fin.length by omega)
           have e1 := map_at (f := pInt) hy
           refine nav ?_
           (refine aC_region ?_ <;> refine xL 49 (q_idxN tSl22_LbB) ?_ <;> (refine yL 50 (q_ld tNa3_LbB) fun v50 hv50 => ?_; cases hv50) <;> refine xL 9 q_assign ?_ <;> refine aL_end (nav ?_) <;> try dsimp only)
           (refine aC_region ?_ <;> refine xL 51 (q_fldo 5 tFl25_4_LdI) ?_ <;> (refine yL 52 (q_ldo 5 tNa23_LdI) fun v52 hv52 => ?_; cases hv52) <;> refine xL 53 q_move ?_ <;> refine xL 54 q_move ?_ <;> refine xL 55 (q_build tSt72_LfD) ?_ <;> refine s_lit1a 56 tEl23_LdR fun h56 ho56 => ?_ <;> (refine s_app 301 56 57 tEl23_LdR fun h57 ho57 => ?_; refine aL_ent (relabel (l := 57) 301 rfl rfl) fun _ => ?_; refine aL_ent (recast (l := 301) rfl ((snoc_mv _ (a.moves ++ stMv a.n a.start ++ fiMv a.n (a.fin.take j)) ⟨y, a.n, -1⟩).trans (by rw [List.append_assoc (a.moves ++ stMv a.n a.start), ← fiMv_snoc a.n hy]))) fun _ => ?_) <;> refine xL 58 (q_fldo 5 tFl25_4_LdI) ?_ <;> refine s_st 5 tNa23_LdI tSz23_LdR ?_ <;> refine aL_end (nav ?_) <;> try dsimp only)
           (refine aC_region ?_ <;> refine xL 59 q_add ?_ <;> refine xL 47 q_move ?_ <;> refine aL_end (nav ?_) <;> try dsimp only)
           refine aN_again (
            ⟨(j + 1, h57), lt_of_get hy, ho57⟩
            ) (by dsimp only; omega) ⟨rfl, rfl, rfl, rfl, rfl, rfl, rfl, trivial⟩ ⟨rfl, rfl, rfl, rfl, trivial⟩)
        · first
          | exact Bool.noConfusion hb48
          | (
           rw [List.take_of_length_le (show a.fin.length ≤ j by omega)]
           have hone : En.one (PV.val hM2) = true := hM2o
           refine nav ?_
           refine aC_ent (relabel (l := 301) 1000 rfl rfl) fun _ => ?_
           (refine aC_region ?_ <;> (refine yL 60 (q_ldao (k := 5) (ps := [pInt (a.n + 1), pInt a.syms, pInts [a.n], pInts [a.n], PV.val hM2]) 5 (by kernel_rfl)) fun v60 hv60 => ?_; cases hv60) <;> (refine aL_heap [(1000, hM2, PV.own 72 3 (starA a).moves.length ((starA a).moves.flatMap cMv)), (1, _, _), (2, _, _), (5, _, _)] ⟨rfl, rfl, rfl, rfl, trivial⟩ ?_; refine aL_ch [1, 2, 5] 61 (Tryz.call88) (aMade_g (starA a) (star_len h.toAOk) (star_nodup h) _ hM2 hM2o r5 hr) ?_; rintro _ _ _ ⟨⟨V1, rfl⟩, rfl, rfl⟩) <;> refine xL 62 q_extract ?_ <;> refine xL 63 q_extract ?_ <;> refine s_sta 2 tAgg25_LdS ?_ <;> refine xL 3 q_assign ?_ <;> refine aL_end (nav ?_) <;> try dsimp only)
           exact ret_cs (k := 5) 2 (by kernel_rfl) (Tryz.results44) rfl rfl rfl (Nat.le_of_ble_eq_true rfl) (by decide) r5.s rfl))
theorem aStar_e (a : Aut) : AF Tryz.prog 44 [pAut a] (· = resW (starX a)) := by
 cases hv : autOk a with
 | false => rw [starX_bad hv]; exact aStar_bad a hv
 | true =>
   rw [starX_ok hv]
   have h := vok_of hv
   obtain ⟨p0, p1, p2, p3, p4, E, h5, h2, hr⟩ := aReduced_5 (starA a) (star_len h.toAOk) (star_pre h)
   rw [h2]; exact aStar_g a hv h5 hr
end Go.Proofs.YtgigclnaicbiaaaGreatDoor
namespace Go.En
open Go.RowKit Go.Cb
set_option linter.all false
abbrev Pi2 := Int × Int
def ikey (k : Pi2) : Value := .agg #[.int .i64 k.1, .int .i64 k.2]
theorem ikey_inj {a b : Pi2} (h : ikey a = ikey b) : a = b := by
 simp [ikey] at h
 exact Prod.ext h.1 h.2
def pikv (m : List (Pi2 × Value)) : List (Value × Value) := m.map fun x => (ikey x.1, x.2)
def piOk (k : Pi2) : Prop := (0 ≤ k.1 ∧ k.1 ≤ 1000000) ∧ (0 ≤ k.2 ∧ k.2 ≤ 1000000)
structure PiT (P : Program) (t ks s e : Nat) (z : Value) : Prop where
 ht : P.underlying t = some (.map ks e)
 hu : P.underlying ks = some (.array 2 s)
 hs : P.underlying s = some (.int .i64)
 hk : P.keyType ks = true
 hk2 : P.keyTypeAt 2 ks = true
 hti : P.tiled 2 ks = true
 hc2 : P.cellsOf ks = 2
 hc1 : P.cellsOf s = 1
 hf : ∀ a b : Int, (Value.agg #[.int .i64 a, .int .i64 b]).formed P ks = true
 hsz : ∃ n, P.types.size = n + 1
 hz : ZeroT P e z
theorem PiT.law {P : Program} {t ks s e : Nat} {z : Value} (h : PiT P t ks s e z) : WideMaps.KeyLaw P ks := deep_law (m := 2) (by decide) h.hk2 h.hti (by rw [h.hu])
theorem PiT.key {P : Program} {t ks s e : Nat} {z : Value} (h : PiT P t ks s e z) {k : Pi2} (hk : piOk k) : ∃ l, keyOf P ks (ikey k) = some l := by
 obtain ⟨n, hn⟩ := h.hsz
 have hl : ∀ c : Int, (0 ≤ c ∧ c ≤ 1000000) → P.keyLits (n + 1) s [.int .i64 c] = some [.int .i64 c] := fun c hc => by
  unfold Program.keyLits
  rw [h.hs]
  dsimp only
  rw [if_pos ⟨rfl, by simp [Lit.wf, IntKind.min, IntKind.max, IntKind.signed, IntKind.bits]; omega⟩]
 unfold keyOf
 rw [h.hu]
 dsimp only
 rw [h.hk, show (ikey k).formed P ks = true from h.hf _ _, hn]
 refine ⟨.string (keyBytes [.int .i64 k.1, .int .i64 k.2]), ?_⟩
 rw [if_pos (show (true && true) = true from rfl)]
 unfold Program.keyLits
 rw [h.hu]
 dsimp only [ikey, Value.cells]
 rw [h.hc2, h.hc1]
 rw [if_pos (by rfl)]
 rw [show List.range 2 = [0, 1] from rfl]
 simp only [List.mapM_cons, List.mapM_nil, Nat.zero_mul, Nat.one_mul, List.drop_zero, List.drop_succ_cons, List.take_succ_cons, List.take_zero, hl _ hk.1, hl _ hk.2]
 rfl
theorem aget_none2 {m : List (Pi2 × Value)} {k : Pi2} (h : ∀ x ∈ m, x.1 ≠ k) : aget m k = none := by
 induction m with
 | nil => rfl
 | cons x m ih =>
   rw [aget, if_neg (fun e => h x (by simp) e.symm)]
   exact ih fun y hy => h y (by simp [hy])
theorem aget_some2 {m : List (Pi2 × Value)} (hn : (m.map (·.1)).Nodup) {j : Nat} {k : Pi2} {v : Value} (h : m[j]? = some (k, v)) : aget m k = some v := by
 induction m generalizing j with
 | nil => simp at h
 | cons x m ih =>
   rw [List.map_cons, List.nodup_cons] at hn
   cases j with
   | zero => simp at h; subst h; rw [aget, if_pos rfl]
   | succ j =>
     rw [List.getElem?_cons_succ] at h
     rw [aget, if_neg (fun e => hn.1 (List.mem_map.2 ⟨_, List.mem_of_getElem? h, e⟩))]
     exact ih hn.2 h
theorem ent_at2 {es : Array MapEntry} {m : List (Pi2 × Value)} (h : kvOf es = pikv m) {j : Nat} {e : MapEntry} {k : Pi2} (he : es[j]? = some e) (hk : e.key = ikey k) : m[j]? = some (k, e.val) := by
 have h1 : (kvOf es)[j]? = some (ikey k, e.val) := by
  unfold kvOf
  rw [List.getElem?_map, Array.getElem?_toList, he, ← hk]; rfl
 rw [h] at h1
 unfold pikv at h1
 rw [List.getElem?_map, Option.map_eq_some_iff] at h1
 obtain ⟨⟨k', v'⟩, h2, h3⟩ := h1
 obtain ⟨h4, h5⟩ := Prod.mk.inj h3
 dsimp only at h4 h5
 rw [h2, ikey_inj h4, h5]
theorem keys_all2 {es : Array MapEntry} {m : List (Pi2 × Value)} (h : kvOf es = pikv m) : ∀ e ∈ es.toList, ∃ x ∈ m, e.key = ikey x.1 := fun e he => by
 have h1 : (e.key, e.val) ∈ kvOf es := List.mem_map.2 ⟨e, he, rfl⟩
 rw [h] at h1
 obtain ⟨x, hx, hxe⟩ := List.mem_map.1 h1
 exact ⟨x, hx, (Prod.mk.inj hxe).1.symm⟩
theorem find_pi {P : Program} {t ks s e : Nat} {z : Value} (hT : PiT P t ks s e z) {es : Array MapEntry} {m : List (Pi2 × Value)} (h : kvOf es = pikv m) (hm : ∀ x ∈ m, piOk x.1) (hn : (m.map (·.1)).Nodup) {k : Pi2} (hk : piOk k) (w : World) :
 (aget m k = none ∧ (Instr.findKey ks (ikey k) es.toList).run P w = .ok none w) ∨ ∃ (j : Nat) (e0 : MapEntry), es[j]? = some e0 ∧ e0.key = ikey k ∧ aget m k = some e0.val ∧ (Instr.findKey ks (ikey k) es.toList).run P w = .ok (some (j, e0.val)) w := by
 obtain ⟨l, hl⟩ := hT.key hk
 have hall : ∀ e ∈ es.toList, ∃ l, keyOf P ks e.key = some l := fun e he => by
  obtain ⟨x, hx, hxe⟩ := keys_all2 h e he
  rw [hxe]; exact hT.key (hm x hx)
 rcases hT.law.find w hl es.toList hall with ⟨h1, h2⟩ | ⟨j, e0, h1, h2, h3⟩
 · refine .inl ⟨aget_none2 fun x hx e => ?_, h1⟩
   obtain ⟨i, hi⟩ := List.getElem?_of_mem hx
   have h4 : (kvOf es)[i]? = some (ikey x.1, x.2) := by rw [h]; unfold pikv; rw [List.getElem?_map, hi]; rfl
   unfold kvOf at h4
   rw [List.getElem?_map, Option.map_eq_some_iff] at h4
   obtain ⟨e0, h5, h6⟩ := h4
   exact h2 e0 (List.mem_of_getElem? h5) (by rw [(Prod.mk.inj h6).1, e])
 · have h4 : es[j]? = some e0 := by rw [← Array.getElem?_toList]; exact h2
   exact .inr ⟨j, e0, h4, h3, aget_some2 hn (ent_at2 h h4 h3), h1⟩
section
variable {P : Program} {c : Ctx} {ops : Array Oper} {Q : Exit → Act → World → Prop} {rest : List Oper} {sL hP : List (Nat × Ent)} {o : Oper}
theorem look2_pi {t ks s e : Nat} {z : Value} (hT : PiT P t ks s e z) {b clock : Nat} {es : Array MapEntry} {m : List (Pi2 × Value)} (h : kvOf es = pikv m) (hm : ∀ x ∈ m, piOk x.1) (hn : (m.map (·.1)).Nodup) {k : Pi2} (hk : piOk k) {w : World} (hb : w.heap[b]? = some (.map es clock)) : (Instr.lookup t (.map (some b)) (ikey k) true).run P w = .ok (.tuple [(aget m k).getD z, .bool (aget m k).isSome].toArray) w := by
 obtain ⟨l, hl⟩ := hT.key hk
 have hck := fun em => hT.law.check w em hl
 unfold Instr.lookup
 simp only [Sem.run_bind, run_underlying hT.ht, Result.andThen_ok, getObj, Sem.run, hb, hck]
 rcases find_pi hT h hm hn hk w with ⟨h1, h2⟩ | ⟨j, e0, h3, h4, h1, h2⟩
 · simp [h1, h2, hck, ZeroT.run hT.hz]
 · simp [h1, h2, hck]
theorem q_look2P {t ks s e : Nat} {z u : Value} {x y : Operand} {mv : Value} {V : Value} {m : List (Pi2 × Value)} {k : Pi2} {b : Bool} {p : PV} (l : Nat) (hT : PiT P t ks s e z) (hm : ∀ x ∈ m, piOk x.1) (hn : (m.map (·.1)).Nodup) (hk : piOk k) (hu : (aget m k).getD z = u) (hb : (aget m k).isSome = b) (ho : o.op = .lookup t x y true := by exact rfl) (hx : ev sL x = some (mv, p) := by exact rfl) (hl : lk hP l = some (mv, .omap (pikv m)) := by exact rfl) (hy : ev sL y = some (V, .agg [.val (.int .i64 k.1), .val (.int .i64 k.2)]) := by exact rfl) : YE P (⟨sL, hP⟩ : St) o (· = .tuple [u, .bool b].toArray) (.tup [.val u, .val (.bool b)]) := .exact fun M F a w H => by
 subst hu hb
 have hv := (H.ev hx).1
 obtain ⟨hkv, hS⟩ := H.ev hy
 have hV : V = ikey k := agg_plain (us := [.int .i64 k.1, .int .i64 k.2]) hS
 rw [hV] at hkv
 obtain ⟨b, es, clock, rfl, he, h, _⟩ := (H.tr l _ _ hl).map
 refine ⟨.tup [(aget m k).getD z, .bool (aget m k).isSome] _ rfl fun i x p hx hp => ?_, by simp [execOp, ho, hv, hkv, look2_pi hT he.symm hm hn hk h]⟩
 match i with
 | 0 => simp at hx hp; subst hx hp; exact .val _
 | 1 => simp at hx hp; subst hx hp; exact .val _
 | i + 2 => simp at hx
theorem s_mput2 {t ks s e : Nat} {z : Value} {x y u : Operand} {mv V v : Value} {m : List (Pi2 × Value)} {k : Pi2} {p r : PV} (l : Nat) (hT : PiT P t ks s e z) (hm : ∀ x ∈ m, piOk x.1) (hn : (m.map (·.1)).Nodup) (hk : piOk k) (hno : aget m k = none)
 (kk : aL P c ops Q rest ⟨sL, put l (mv, .omap (pikv (m ++ [(k, v)]))) hP⟩) (hw : wants ops sL o = some true := by exact rfl) (hd : o.dst = none := by exact rfl) (ho : o.op = .mapUpdate t x y u ∨ o.op = .insert t x y u := by first | exact .inl rfl | exact .inr rfl) (hx : ev sL x = some (mv, p) := by exact rfl) (hl : lk hP l = some (mv, .omap (pikv m)) := by exact rfl) (hy : ev sL y = some (V, .agg [.val (.int .i64 k.1), .val (.int .i64 k.2)]) := by exact rfl) (hu : ev sL u = some (v, r) := by exact rfl) : aL P c ops Q (o :: rest) (⟨sL, hP⟩ : St) :=
 aL_run hw fun a w F H => by
  have hxv := (H.rd.ev hx).1
  obtain ⟨hyv, hS⟩ := H.rd.ev hy
  have hV : V = ikey k := agg_plain (us := [.int .i64 k.1, .int .i64 k.2]) hS
  rw [hV] at hyv
  have huv := (H.rd.ev hu).1
  obtain ⟨b, es, clock, rfl, he, hb, hFb, hWf⟩ := (H.tr l _ _ hl).mapW
  obtain ⟨lt', hlt'⟩ := hT.key hk
  have hck := hT.law.check w false hlt'
  have main : ∀ (es' : Array MapEntry) (clock' : Nat), WfM es' clock' → kvOf es' = pikv (m ++ [(k, v)]) → Holds c ⟨sL, put l (.map (some b), .omap (pikv (m ++ [(k, v)]))) hP⟩ a { w with heap := w.heap.setIfInBounds b (.map es' clock') } := fun es' clock' hW' he' => by
   have hlt := blk_lt hb
   have hch : Chg (fun x => x = b) w { w with heap := w.heap.setIfInBounds b (.map es' clock') } := ⟨rfl, rfl, rfl, by simp, fun i hi hne => by
    rw [Array.getElem?_setIfInBounds_ne (fun e => hne e.symm)]⟩
   refine ⟨F, H.change0 (fun l' => l' = l) (hch.wid fun x hx => .inl ⟨l, _, rfl, hl, (hFb x).2 hx⟩) (fun l' x hne hx' => ?_) (fun l' x b' hT' hx' hb' => ?_) (fun hmm l' u q hT' hx' => ?_) (fun l1 l2 _ _ _ h1 h2 hne => absurd (h1.trans h2.symm) hne)⟩
   · rcases lk_put hx' with ⟨e1, _⟩ | ⟨_, e1⟩
     · exact absurd e1.symm hne
     · exact ⟨e1, rfl⟩
   · subst hT'; exact .inl ⟨l', _, rfl, hl, hb'⟩
   · subst hT'
     rw [lk_put_self] at hx'
     cases hx'
     rw [← he']
     exact .omap b es' clock' (by simp [hlt]) hFb hW'
  unfold Oper.wp
  rcases find_pi hT he.symm hm hn hk w with ⟨h1, h2⟩ | ⟨j, e0, h3, h4, h1, h2⟩
  · have hkv : kvOf (es.push { key := ikey k, val := v, born := clock }) = pikv (m ++ [(k, v)]) := by
     unfold pikv at he ⊢
     rw [List.map_append, he]
     simp [kvOf]
    unfold execOp
    rcases ho with ho | ho
    · simp [ho, hxv, hyv, huv, Instr.mapUpdate, run_underlying hT.ht, getObj, setObj, Sem.run, hb, hck, h2, Oper.upon, hd, Act.put]
      exact kk _ _ (main _ _ (wf_push hWf) hkv)
    · simp [ho, hxv, hyv, huv, Instr.mapUpdate, run_underlying hT.ht, getObj, setObj, Sem.run, hb, hck, h2, Oper.upon, hd, Act.put]
      exact kk _ _ (main _ _ (wf_push hWf) hkv)
  · rw [hno] at h1; cases h1
end
section
variable {P : Program} {sL hP : List (Nat × Ent)} {o : Oper}
theorem q_build311 {t : Nat} {x y u : Operand} {V vy vu z z0 z1 z2 z3 z4 : Value} {p0 p1 p2 py pu : PV} (hT : stInfo P t = some (z, [(0, 3), (3, 1), (4, 1)])) (hzs : z.cells = #[z0, z1, z2, z3, z4]) (hy1 : vy.oneCell' = true) (hu1 : vu.oneCell' = true) (ho : o.op = .build t #[(0, x), (1, y), (2, u)] := by exact rfl) (hx : ev sL x = some (V, .agg [p0, p1, p2]) := by exact rfl) (hy : ev sL y = some (vy, py) := by exact rfl) (hu : ev sL u = some (vu, pu) := by exact rfl) : YE P (⟨sL, hP⟩ : St) o (fun _ => True) (.agg [p0, p1, p2, py, pu]) := fun M F a w H => by
 obtain ⟨hx1, hx2⟩ := H.ev hx
 obtain ⟨hy2, hy3⟩ := H.ev hy
 obtain ⟨hu2, hu3⟩ := H.ev hu
 generalize hp : PV.agg [p0, p1, p2] = p at hx2
 cases hx2 with
 | agg vs ps hl hV =>
   cases hp
   match vs, hl, hV with
   | [a0, a1, a2], _, hV =>
     have s0 := hV 0 a0 p0 rfl rfl
     have s1 := hV 1 a1 p1 rfl rfl
     have s2 := hV 2 a2 p2 rfl rfl
     refine ⟨.agg [a0, a1, a2, vy, vu].toArray, trivial, .agg _ _ rfl fun i v q hv hq => ?_, fun N W _ _ _ => ?_⟩
     · match i with
       | 0 => simp at hv hq; subst hv hq; exact s0
       | 1 => simp at hv hq; subst hv hq; exact s1
       | 2 => simp at hv hq; subst hv hq; exact s2
       | 3 => simp at hv hq; subst hv hq; exact hy3
       | 4 => simp at hv hq; subst hv hq; exact hu3
       | i + 5 => simp at hv
     · have c1 := cells_one hy1
       have c2 := cells_one hu1
       have hb : P.built t [(0, Value.agg [a0, a1, a2].toArray), (1, vy), (2, vu)] = some [a0, a1, a2, vy, vu].toArray := by
        unfold stInfo at hT
        split at hT
        · rename_i i fs hi hf
          split at hT
          · rename_i z' pl hz hpl
            cases hT
            unfold Program.built
            simp only [hi, hf, hz, hpl, hzs]
            have h0 : (Value.agg #[a0, a1, a2]).cells = #[a0, a1, a2] := rfl
            simp [Instr.fill, h0, c1, c2, Array.zipIdx]
          · cases hT
        · cases hT
       have := run_build (P := P) W t #[(0, Value.agg [a0, a1, a2].toArray), (1, vy), (2, vu)] _ hb
       simp [execOp, ho, hx1, hy2, hu2, this]
 | _ => cases hp
end
section
variable {P : Program} {c : Ctx} {sL hP : List (Nat × Ent)}
theorem ret_sss {fn : Func} {R : PV → Prop} {t s r : Nat} {v u x : Value} {p q g : PV} (hr : fn.results = #[.tmp t, .tmp s, .tmp r]) (ht : lk sL t = some (v, p)) (hs : lk sL s = some (u, q)) (hx : lk sL r = some (x, g)) (hR : R (.tup [p, q, g])) (hN : ∀ b, ¬ c.N0 b := by intro _ h; exact h) : aR c (bodyPost P fn (RetAF c R)) (⟨sL, hP⟩ : St) := fun a w ⟨F, H⟩ => by
 obtain ⟨h1, h2⟩ := H.sl t v p ht
 obtain ⟨h3, h4⟩ := H.sl s u q hs
 obtain ⟨h5, h6⟩ := H.sl r x g hx
 have hM : ∀ b, b < w.heap.size → (c.M0 b ∨ False) → mof c hP F b := fun b _ hb => by
  rcases hb with hb | hb
  · exact .inl hb
  · exact hb.elim
 refine ⟨H.df, .tuple [v, u, x].toArray, ?_, _, _, fun _ => False, rfl, hR, H.ext.ext (fun b _ => hN b), .shr (.tup [v, u, x] [p, q, g] rfl fun i x r hx hr => ?_) (fun _ h => h), fun _ h => h.elim, H.dw⟩
 · simp [results, hr, Array.getD_eq_getD_getElem?, h1, h3, h5]
 · match i with
   | 0 => simp at hx hr; subst hx hr; exact h2.anti hM
   | 1 => simp at hx hr; subst hx hr; exact h4.anti hM
   | 2 => simp at hx hr; subst hx hr; exact h6.anti hM
   | i + 3 => simp at hx
end
theorem cPx3 {P : Program} {c : Ctx} {ops : Array Oper} {Q : Exit → Act → World → Prop} {rest : List Oper} {sL hP : List (Nat × Ent)} {o : Oper} {p1 p2 p3 : PV} (d : Nat) (hC : CallR P c (⟨sL, hP⟩ : St) o (· = .tup [p1, p2, p3])) (k : ∀ v1 v2 v3, vOf p1 v1 → vOf p2 v2 → vOf p3 v3 → aL P c ops Q rest ⟨put d (.tuple [v1, v2, v3].toArray, .tup [p1, p2, p3]) sL, hP⟩) (hsh : shD (.tup [p1, p2, p3]) = true := by exact rfl) (hw : wants ops sL o = some true := by exact rfl) (hd : o.dst = some d := by exact rfl) (hn : d < c.nt := by exact Nat.le_of_ble_eq_true rfl) : aL P c ops Q (o :: rest) (⟨sL, hP⟩ : St) :=
 call_run hw hC fun a w F w' v p' Fr H hR hx hT hlo hdw => by
  subst hR
  have hS := hT.shD hsh
  rw [hd]
  have hS' : Shr (mof c hP F) w' v (.tup [p1, p2, p3]) := hS.anti fun b _ h => .inl h
  cases hS with
  | tup vs ps hl h =>
    match vs, hl, h, hS' with
    | [v1, v2, v3], _, h, hS' => exact k v1 v2 v3 (h 0 v1 _ rfl rfl).vOf (h 1 v2 _ rfl rfl).vOf (h 2 v3 _ rfl rfl).vOf _ _ ⟨F, put_up H hx hn hS'⟩
end Go.En
namespace Go.Proofs.YtgigclnaicbiaaaGreatDoor
open Go.RowKit Go.Cb Go.En
set_option linter.all false
set_option maxRecDepth 100000
theorem tAgg151_LfP : AggT Tryz.prog 151 2 = true := by kernel_rfl
theorem tAgg95_LfP : AggT Tryz.prog 95 5 = true := by kernel_rfl
theorem tAr151_LfP : ArrT Tryz.prog 151 2 = true := by kernel_rfl
theorem tEl152_LfP : ElT Tryz.prog 152 151 2 16 (.agg #[(.int .i64 0), (.int .i64 0)]) := ⟨Tryz.underlying152, by kernel_rfl, rfl, by decide⟩
theorem tFl95_0_LfP : FldT Tryz.prog 95 0 0 = true := by kernel_rfl
theorem tFl95_1_LfP : FldT Tryz.prog 95 1 3 = true := by kernel_rfl
theorem tFl95_2_LfP : FldT Tryz.prog 95 2 4 = true := by kernel_rfl
theorem tSl152_LfP : SlT Tryz.prog 152 151 2 = true := by kernel_rfl
theorem tZr151_LfP : ZeroT Tryz.prog 151 (.agg #[(.int .i64 0), (.int .i64 0)]) := by unfold ZeroT; kernel_rfl
theorem tZr95_LfP : ZeroT Tryz.prog 95 (.agg #[(.int .i64 0), (.slice none 0 0), (.slice none 0 0), (.slice none 0 0), (.slice none 0 0)]) := by unfold ZeroT; kernel_rfl
theorem aDecides_e (op : Int) (x y : Bool) : AF Tryz.prog 120 [pInt op, pBool x, pBool y] (· = pBool (decB op x y)) := by
 refine AF.of_body 30 Tryz.func120 rfl Tryz.ntmps120 (Nat.le_of_ble_eq_true rfl) ?_
 intro w0 M0 vs hl hv
 obtain ⟨v0, v1, v2, rfl⟩ := len3 hl
 obtain rfl := hv 0 _ _ rfl rfl
 obtain rfl := hv 1 _ _ rfl rfl
 obtain rfl := hv 2 _ _ rfl rfl
 clear hl hv
 refine nav ?_
 (refine aC_region ?_ <;> refine xL 6 q_assign ?_ <;> refine aL_end (nav ?_) <;> try dsimp only)
 (refine aC_region ?_ <;> refine xL 7 q_move ?_ <;> refine aL_end (nav ?_) <;> try dsimp only)
 (refine aC_region ?_ <;> refine xL 9 q_eql ?_ <;> refine xL 8 q_assign ?_ <;> refine aL_end (nav ?_) <;> try dsimp only)
 (first | refine cCd ?_ ?_ | refine cC ?_ ?_) <;> intro hb8
 · first
   | exact Bool.noConfusion hb8
   | (
    refine nav ?_
    (refine aC_region ?_ <;> refine xL 10 q_move ?_ <;> refine xL 11 q_move ?_ <;> (refine bL 11 (fun hb11 => ?_) (fun hb11 => ?_) <;> (first | refine kL 12 ?_ | refine xL 12 q_move ?_)) <;> refine xL 13 q_pick ?_ <;> refine xL 6 q_assign ?_ <;> refine aL_end (nav ?_) <;> try dsimp only) <;> (
     refine ret_shr (Tryz.results120) rfl ?_
     unfold decB
     rw [if_pos (by omega)]
     cases x <;> cases y <;> first | rfl | (exfalso; simp_all; done)))
 · first
   | exact Bool.noConfusion hb8
   | (
    refine nav ?_
    (refine aC_region ?_ <;> refine xL 15 q_eql ?_ <;> refine xL 14 q_assign ?_ <;> refine aL_end (nav ?_) <;> try dsimp only)
    (first | refine cCd ?_ ?_ | refine cC ?_ ?_) <;> intro hb14
    · first
      | exact Bool.noConfusion hb14
      | (
       refine nav ?_
       (refine aC_region ?_ <;> refine xL 16 q_move ?_ <;> refine xL 17 q_move ?_ <;> (refine bL 17 (fun hb17 => ?_) (fun hb17 => ?_) <;> (first | refine kL 18 ?_ | refine xL 18 q_move ?_)) <;> refine xL 19 q_pick ?_ <;> refine xL 6 q_assign ?_ <;> refine aL_end (nav ?_) <;> try dsimp only) <;> (
        refine ret_shr (Tryz.results120) rfl ?_
        unfold decB
        rw [if_neg (by omega), if_pos (by omega)]
        cases x <;> cases y <;> first | rfl | (exfalso; simp_all; done)))
    · first
      | exact Bool.noConfusion hb14
      | (
       refine nav ?_
       (refine aC_region ?_ <;> refine xL 21 q_eql ?_ <;> refine xL 20 q_assign ?_ <;> refine aL_end (nav ?_) <;> try dsimp only)
       (first | refine cCd ?_ ?_ | refine cC ?_ ?_) <;> intro hb20
       · first
         | exact Bool.noConfusion hb20
         | (
          refine nav ?_
          (refine aC_region ?_ <;> refine xL 22 q_move ?_ <;> refine xL 23 q_move ?_ <;> (refine bL 23 (fun hb23 => ?_) (fun hb23 => ?_) <;> (first | refine kL 24 ?_ | refine xL 24 q_move ?_)) <;> (first | refine kL 25 ?_ | refine xL 25 q_not ?_) <;> refine xL 26 q_pick ?_ <;> refine xL 6 q_assign ?_ <;> refine aL_end (nav ?_) <;> try dsimp only) <;> (
           refine ret_shr (Tryz.results120) rfl ?_
           unfold decB
           rw [if_neg (by omega), if_neg (by omega), if_pos (by omega)]
           cases x <;> cases y <;> first | rfl | (exfalso; simp_all; done)))
       · first
         | exact Bool.noConfusion hb20
         | (
          refine nav ?_
          (refine aC_region ?_ <;> refine xL 27 q_move ?_ <;> refine xL 28 q_move ?_ <;> refine xL 29 (q_bneq Tryz.underlying4) ?_ <;> refine xL 6 q_assign ?_ <;> refine aL_end (nav ?_) <;> try dsimp only)
          refine ret_shr (Tryz.results120) rfl ?_
          unfold decB
          rw [if_neg (by omega), if_neg (by omega), if_neg (by omega)]
          cases x <;> cases y <;> first | rfl | (exfalso; simp_all; done))))
theorem numE_snoc {α κ : Type} [DecidableEq κ] (f : α → κ) (x : α) : ∀ (l : List α) (off : Nat), numE f off (l ++ [x]) = numE f off l ++ [(f x, .int .i64 ((off + l.length : Nat) : Int))]
 | [], off => by simp [numE]
 | y :: l, off => by rw [List.cons_append, numE, numE_snoc f x l (off + 1), numE, List.cons_append, List.length_cons]; congr 5; omega
theorem numE_keys {α κ : Type} [DecidableEq κ] (f : α → κ) : ∀ (l : List α) (off : Nat), (numE f off l).map (·.1) = l.map f
 | [], _ => rfl
 | y :: l, off => by rw [numE, List.map_cons, numE_keys f l (off + 1), List.map_cons]
abbrev PrS := (Nat × Nat) × (Int × Int)
def keyI (x : PrS) : Pi2 := ((x.1.1 : Nat), (x.1.2 : Nat))
theorem keyI_inj {x y : PrS} : keyI x = keyI y ↔ x.1 = y.1 := by
 unfold keyI
 rw [Prod.mk.injEq, Prod.ext_iff]
 omega
theorem keyI_id (o : List PrS) (x : PrS) : posK keyI o (keyI x) = posK Prod.fst o x.1 := posK_inj fun y _ => keyI_inj
def cPr (x : PrS) : List PV := [pInt (x.1.1 : Nat), pInt (x.1.2 : Nat)]
theorem cPr_len (x : PrS) : (cPr x).length = 2 := rfl
theorem snoc_pr (e : Nat) (L : List PrS) (x : PrS) : PV.own e 2 (L.length + 1) (L.flatMap cPr ++ cPr x) = .own e 2 (L ++ [x]).length ((L ++ [x]).flatMap cPr) := by simp
theorem num_lookP (o : List PrS) (x : PrS) : (aget (numE keyI 0 o) (keyI x)).getD (.int .i64 0) = .int .i64 ((if posK keyI o (keyI x) < o.length then posK keyI o (keyI x) else 0 : Nat) : Int) ∧ (aget (numE keyI 0 o) (keyI x)).isSome = decide (posK keyI o (keyI x) < o.length) := by
 rw [numE_get]
 by_cases h : posK keyI o (keyI x) < o.length
 · rw [if_pos h, if_pos h, decide_eq_true h, Nat.zero_add]; exact ⟨rfl, rfl⟩
 · rw [if_neg h, if_neg h, decide_eq_false h]; exact ⟨rfl, rfl⟩
def pFrom (o : List PrS) : List Int := o.map fun x => x.2.1
def pSym (o : List PrS) : List Int := o.map fun x => x.2.2
theorem from_snoc (o : List PrS) (y : PrS) : pFrom (o ++ [y]) = pFrom o ++ [y.2.1] := by unfold pFrom; rw [List.map_append]; rfl
theorem sym_snoc (o : List PrS) (y : PrS) : pSym (o ++ [y]) = pSym o ++ [y.2.2] := by unfold pSym; rw [List.map_append]; rfl
def pPairs (A B : Aut) (op : Int) (q : List PrS × List (List Nat)) : PV := .agg [pInt (A.syms.toNat : Nat), .sl q.2.length (q.2.map pNats), .sl (q.1.map (prodF A B op)).length ((q.1.map (prodF A B op)).map pBool), pInts (pFrom q.1), pInts (pSym q.1)]
def RProd (A B : Aut) (op : Int) (p : PV) : Prop := (∃ q, prodQ A B = some q ∧ p = .tup [pPairs A B op q, pBool true]) ∨
 (prodQ A B = none ∧ ∃ u0 u1 u2 u3 u4 : Value, u0.oneCell' = true ∧ u1.oneCell' = true ∧ u2.oneCell' = true ∧ u3.oneCell' = true ∧ u4.oneCell' = true ∧ p = .tup [.agg [.val u0, .val u1, .val u2, .val u3, .val u4], pBool false])
theorem stPairs : stInfo Tryz.prog 95 = some (.agg #[.int .i64 0, .slice none 0 0, .slice none 0 0, .slice none 0 0, .slice none 0 0], [(0, 3), (3, 1), (4, 1)]) := by kernel_rfl
theorem tPi : PiT Tryz.prog 153 151 3 3 (.int .i64 0) := ⟨Tryz.underlying153, Tryz.underlying151, Tryz.underlying3, by kernel_rfl, by kernel_rfl, by kernel_rfl, by kernel_rfl, by kernel_rfl, fun a b => by kernel_rfl, ⟨Tryz.prog.types.size - 1, by kernel_rfl⟩, by show ZeroT _ _ _; unfold ZeroT; kernel_rfl⟩
set_option maxHeartbeats 4000000 in
theorem aProduct_e (A B : Aut) (op : Int) (hA : DetA A) (hB : DetA B) (hs : A.syms = B.syms) : AF Tryz.prog 104 [pAut A, pAut B, pInt op] (RProd A B op) := by
 have hAn1 := hA.ok.n1
 have hAn0 := hA.ok.n0
 have hBn1 := hB.ok.n1
 have hBn0 := hB.ok.n0
 have hs0 := hA.ok.s0
 have hs1 := hA.ok.s1
 have hsN : ((A.syms.toNat : Nat) : Int) = A.syms := by omega
 have hsB : B.syms.toNat = A.syms.toNat := by rw [hs]
 refine AF.of_body 152 Tryz.func104 rfl Tryz.ntmps104 (Nat.le_of_ble_eq_true rfl) ?_
 intro w0 M0 vs hl hv
 obtain ⟨v0, v1, v2, rfl⟩ := len3 hl
 obtain rfl := hv 2 _ _ rfl rfl
 clear hl hv
 refine nav ?_
 (refine aC_region ?_ <;> refine s_boxa 3 5 fun h3 => ?_ <;> refine s_boxa 4 5 fun h4 => ?_ <;> refine s_alloc [(.int .i64 0), (.slice none 0 0), (.slice none 0 0), (.slice none 0 0), (.slice none 0 0)] 5 6 tZr95_LfP fun h6 => ?_ <;> refine xL 7 q_assign ?_ <;> refine aL_end (nav ?_) <;> try dsimp only)
 (refine aC_draw (fun i => ([] : List Nat).elem i) [3, 4] (by kernel_rfl) ?_ <;> (refine yD 0 21 rfl (q_ldao 3 tAgg25_LdS) fun v21 hv21 => ?_; cases hv21) <;> (refine yD 2 23 rfl (q_ldao 4 tAgg25_LdS) fun v23 hv23 => ?_; cases hv23) <;> (refine aD_one 1 (by kernel_rfl) ?_) <;> (refine aW_call (d := 22) rfl (cA Tryz.call58 (aGraphOf_e A hA.ok)) fun v22 hv22 => ?_; cases hv22) <;> (refine aD_one 3 (by kernel_rfl) ?_) <;> (refine aW_call (d := 24) rfl (cA Tryz.call58 (aGraphOf_e B hB.ok)) fun v24 hv24 => ?_; cases hv24) <;> refine xE 4 8 rfl q_assign ?_ <;> refine xE 5 9 rfl q_assign ?_ <;> refine aD_end (by kernel_rfl) (nav ?_) <;> try dsimp only)
 (refine aC_region ?_ <;> refine xL 25 (q_fldo 3 tFl25_1_LdI) ?_ <;> (refine yL 26 (q_ldo 3 tNa3_LbB) fun v26 hv26 => ?_; cases hv26) <;> refine xL 27 (q_build tSt93_LfB) ?_ <;> refine s_lit1 (kk := 1) 28 tEl22_LdI fun h28 ho28 => ?_ <;> (refine s_lit1 (kk := 1) 29 tEl22_LdI fun h29 ho29 => ?_; have q28 : En.one (PV.val h28) = true := ho28; have q29 : En.one (PV.val h29) = true := ho29) <;> refine yL 30 (q_build311 stPairs rfl ho28 ho29) fun v30 _ => ?_ <;> refine s_alloc [(.int .i64 0), (.slice none 0 0), (.slice none 0 0), (.slice none 0 0), (.slice none 0 0)] 5 10 tZr95_LfP fun h10 => ?_ <;> refine s_sta 10 tAgg95_LfP ?_ <;> refine aL_end (nav ?_) <;> try dsimp only)
 refine aC_ent (nilCells (l := 10) [pInt A.syms, .own 22 1 0 [], .own 4 1 0 [], .val h28, .val h29] rfl rfl (fun i p p' h1 h2 => by
  match i with
  | 0 => cases h1; cases h2; exact .inl rfl
  | 1 => cases h1; cases h2; exact .inr ⟨rfl, _, _, rfl⟩
  | 2 => cases h1; cases h2; exact .inr ⟨rfl, _, _, rfl⟩
  | 3 => cases h1; cases h2; exact .inl rfl
  | 4 => cases h1; cases h2; exact .inl rfl
  | i + 5 => simp at h2)) fun _ => ?_
 refine aC_ent (focusO (l := 10) (l' := 301) (j := 1) rfl rfl rfl rfl) fun i => ?_
 obtain ⟨v301, ho301⟩ := i
 refine aC_ent (focusO (l := 10) (l' := 302) (j := 2) rfl rfl rfl rfl) fun i => ?_
 obtain ⟨v302, ho302⟩ := i
 dsimp only [List.set]
 refine aC_ent (relabel (l := 28) 303 rfl rfl) fun _ => ?_
 refine aC_ent (relabel (l := 29) 304 rfl rfl) fun _ => ?_
 refine aC_ent (recast (l := 303) (p' := .own 3 1 (pFrom [((0, 0), (-1, -1))]).length ((pFrom [((0, 0), (-1, -1))]).map pInt)) rfl rfl) fun _ => ?_
 refine aC_ent (recast (l := 304) (p' := .own 3 1 (pSym [((0, 0), (-1, -1))]).length ((pSym [((0, 0), (-1, -1))]).map pInt)) rfl rfl) fun _ => ?_
 (refine aC_region ?_ <;> refine xL 31 (q_build2 tAr151_LfP tZr151_LfP) ?_ <;> refine s_lit1a 32 tEl152_LfP fun h32 ho32 => ?_ <;> refine xL 11 q_assign ?_ <;> refine aL_end (nav ?_) <;> try dsimp only)
 refine aC_ent (relabel (l := 32) 305 rfl rfl) fun _ => ?_
 refine aC_ent (recast (l := 305) (p' := .own 151 2 ([((0, 0), (-1, -1))] : List PrS).length (([((0, 0), (-1, -1))] : List PrS).flatMap cPr)) rfl rfl) fun _ => ?_
 (refine aC_region ?_ <;> refine s_mkmap 33 fun h33 ho33 => ?_ <;> refine xL 34 (q_build2 tAr151_LfP tZr151_LfP) ?_ <;> (refine s_mput2 (m := []) (k := ((0 : Int), (0 : Int))) 33 tPi (fun x hx => by simp at hx) (by simp) ⟨by decide, by decide⟩ rfl ?_; rw [show ([] : List (Pi2 × Value)) ++ [(((0 : Int), (0 : Int)), Value.int .i64 0)] = numE keyI 0 [((0, 0), (-1, -1))] from rfl]) <;> refine xL 35 q_move ?_ <;> refine xL 12 q_assign ?_ <;> refine aL_end (nav ?_) <;> try dsimp only)
 refine aC_ent (relabel (l := 33) 306 rfl rfl) fun _ => ?_
 (refine aC_region ?_ <;> refine xL 13 q_assign ?_ <;> refine aL_end (nav ?_) <;> try dsimp only)
 refine aC_loop (ι := { q : Nat × Value × Value × Value × Value × Value × List PrS × List (List Nat) // (prodW A B).upto ((0, 0), (-1, -1)) q.1 = some (q.2.2.2.2.2.2.1, q.2.2.2.2.2.2.2) ∧ q.1 ≤ q.2.2.2.2.2.2.1.length ∧ q.2.1.oneCell' = true ∧ q.2.2.1.oneCell' = true ∧ q.2.2.2.1.oneCell' = true ∧ q.2.2.2.2.1.oneCell' = true ∧ q.2.2.2.2.2.1.oneCell' = true }) (fun k => ⟨[(2, _, _), (3, _, _), (4, _, _), (6, _, _), (7, _, _), (8, _, _), (9, _, _), (10, _, _), (12, _, _), (11, k.1.2.2.2.2.2.1, .val k.1.2.2.2.2.2.1), (13, .int .i64 k.1.1, pInt k.1.1)], [(3, _, _), (4, _, _), (6, _, _), (10, h10, .own 95 5 1 [pInt A.syms, .val k.1.2.1, .val k.1.2.2.1, .val k.1.2.2.2.1, .val k.1.2.2.2.2.1]), (301, k.1.2.1, .own 22 1 k.1.2.2.2.2.2.2.2.length (k.1.2.2.2.2.2.2.2.map pNats)), (302, k.1.2.2.1, .own 4 1 ((k.1.2.2.2.2.2.2.1.take k.1.1).map (prodF A B op)).length (((k.1.2.2.2.2.2.2.1.take k.1.1).map (prodF A B op)).map pBool)), (303, k.1.2.2.2.1, .own 3 1 (pFrom k.1.2.2.2.2.2.2.1).length ((pFrom k.1.2.2.2.2.2.2.1).map pInt)), (304, k.1.2.2.2.2.1, .own 3 1 (pSym k.1.2.2.2.2.2.2.1).length ((pSym k.1.2.2.2.2.2.2.1).map pInt)), (305, k.1.2.2.2.2.2.1, .own 151 2 k.1.2.2.2.2.2.2.1.length (k.1.2.2.2.2.2.2.1.flatMap cPr)), (306, h33, .omap (pikv (numE keyI 0 k.1.2.2.2.2.2.2.1)))]⟩) (fun k => 2000 - k.1.1) ⟨(0, v301, v302, h28, h29, h32, [((0, 0), (-1, -1))], []), rfl, Nat.zero_le _, ho301, ho302, ho28, ho29, ho32⟩ (fun a w H => H.weaken ⟨rfl, rfl, rfl, rfl, rfl, rfl, rfl, rfl, rfl, rfl, rfl, trivial⟩ ⟨rfl, rfl, rfl, rfl, rfl, rfl, rfl, rfl, rfl, rfl, trivial⟩) ?_
 rintro ⟨⟨i, r1, r2, r3, r4, r5, o, rows⟩, hU, hi, hr1, hr2, hr3, hr4, hr5⟩
 dsimp only
 dsimp only at hU hi hr1 hr2 hr3 hr4 hr5
 obtain ⟨hOk, hRl, _⟩ := prod_ok hA hB hs hU
 have hRl := hRl hi
 have hcap : o.length ≤ 2000 := hOk.cap
 have hfl : ((o.take i).map (prodF A B op)).length ≤ 2000 := by rw [List.length_map, List.length_take]; omega
 have q1 : En.one (PV.val r1) = true := hr1
 have q2 : En.one (PV.val r2) = true := hr2
 have q3 : En.one (PV.val r3) = true := hr3
 have q4 : En.one (PV.val r4) = true := hr4
 refine nav ?_
 (refine aC_region ?_ <;> refine xL 36 q_move ?_ <;> refine xL 37 q_move ?_ <;> refine xL 38 (q_leno 305 tSl152_LfP) ?_ <;> refine xL 39 q_lss ?_ <;> refine aL_end (nav ?_) <;> try dsimp only)
 (first | refine cCd ?_ ?_ | refine cC ?_ ?_) <;> intro hb39
 · first
   | exact Bool.noConfusion hb39
   | (
    obtain ⟨x, hx⟩ := get_some (show i < o.length by omega)
    have hxp := hOk.p x (List.mem_of_getElem? hx)
    have hx1 : x.1.1 < A.n.toNat := hxp.1
    have hx2 : x.1.2 < B.n.toNat := hxp.2
    have e1 : (o.flatMap cPr)[i * 2 + 0]? = some (pInt (x.1.1 : Nat)) := flat_at cPr_len hx (by decide)
    have e2 : (o.flatMap cPr)[i * 2 + 1]? = some (pInt (x.1.2 : Nat)) := flat_at cPr_len hx (by decide)
    refine nav ?_
    (refine aC_draw (fun i => ([] : List Nat).elem i) [305] (by kernel_rfl) ?_ <;> refine xD 0 42 rfl q_move ?_ <;> refine xD 1 43 rfl q_move ?_ <;> refine xD 2 44 rfl (q_idxoN 305 tSl152_LfP) ?_ <;> refine xD 3 45 rfl (q_idxa (len := 2) (i := 0) 305 (by kernel_rfl)) ?_ <;> (refine yD 4 46 rfl (q_ldo 305 tNa3_LbB) fun v46 hv46 => ?_; cases hv46) <;> refine xD 5 47 rfl q_move ?_ <;> refine xD 6 48 rfl q_move ?_ <;> refine xD 7 49 rfl (q_idxoN 305 tSl152_LfP) ?_ <;> refine xD 8 50 rfl (q_idxa (len := 2) (i := 1) 305 (by kernel_rfl)) ?_ <;> (refine yD 9 51 rfl (q_ldo 305 tNa3_LbB) fun v51 hv51 => ?_; cases hv51) <;> refine xE 10 14 rfl q_assign ?_ <;> refine xE 11 15 rfl q_assign ?_ <;> refine aD_end (by kernel_rfl) (nav ?_) <;> try dsimp only)
    (refine aC_region ?_ <;> refine xL 52 (q_fldo 3 tFl25_1_LdI) ?_ <;> (refine yL 53 (q_ldo 3 tNa3_LbB) fun v53 hv53 => ?_; cases hv53) <;> (refine s_make (n := A.syms.toNat) 54 tEl22_LdI (fun h54 ho54 => ?_) (hx := by rw [hsN]; exact rfl) (hy := by rw [hsN]; exact rfl) (hb := by omega)) <;> refine xL 16 q_assign ?_ <;> refine aL_end (nav ?_) <;> try dsimp only)
    rw [← rowAt_nil]
    (refine aC_region ?_ <;> refine xL 55 q_move ?_ <;> refine xL 56 (q_leno 54 tSl22_LbB) ?_ <;> refine xL 57 q_move ?_ <;> refine aL_end (nav ?_) <;> try dsimp only)
    refine aC_loop (ι := { q : Nat × Value × Value × Value × List PrS × List Nat // (prodW A B).row i x o q.1 = some (q.2.2.2.2.1, q.2.2.2.2.2) ∧ q.1 ≤ A.syms.toNat ∧ q.2.1.oneCell' = true ∧ q.2.2.1.oneCell' = true ∧ q.2.2.2.1.oneCell' = true }) (fun k => ⟨[(2, _, _), (3, _, _), (4, _, _), (6, _, _), (7, _, _), (8, _, _), (9, _, _), (10, _, _), (12, _, _), (13, _, _), (14, _, _), (15, _, _), (16, _, _), (56, _, _), (11, k.1.2.2.2.1, .val k.1.2.2.2.1), (57, .int .i64 k.1.1, pInt k.1.1)], [(3, _, _), (4, _, _), (6, _, _), (301, _, _), (302, _, _), (10, h10, .own 95 5 1 [pInt A.syms, .val r1, .val r2, .val k.1.2.1, .val k.1.2.2.1]), (303, k.1.2.1, .own 3 1 (pFrom k.1.2.2.2.2.1).length ((pFrom k.1.2.2.2.2.1).map pInt)), (304, k.1.2.2.1, .own 3 1 (pSym k.1.2.2.2.2.1).length ((pSym k.1.2.2.2.2.1).map pInt)), (305, k.1.2.2.2.1, .own 151 2 k.1.2.2.2.2.1.length (k.1.2.2.2.2.1.flatMap cPr)), (306, h33, .omap (pikv (numE keyI 0 k.1.2.2.2.2.1))), (54, h54, .own 3 1 A.syms.toNat (vec A.syms.toNat fun j => pInt (rowAt k.1.2.2.2.2.2 j)))]⟩) (fun k => A.syms.toNat - k.1.1) ⟨(0, r3, r4, r5, o, []), rfl, Nat.zero_le _, hr3, hr4, hr5⟩ (fun a w H => H.weaken ⟨rfl, rfl, rfl, rfl, rfl, rfl, rfl, rfl, rfl, rfl, rfl, rfl, rfl, rfl, rfl, rfl, trivial⟩ ⟨rfl, rfl, rfl, rfl, rfl, rfl, rfl, rfl, rfl, rfl, rfl, trivial⟩) ?_
    rintro ⟨⟨s, r3', r4', r5', o', r⟩, hW, hsm, hr3', hr4', hr5'⟩
    dsimp only
    dsimp only at hW hsm hr3' hr4' hr5'
    obtain ⟨hMt, hpr, hrl, _⟩ := hOk.toMet.row (fun s hs' => ⟨hA.sl _ _ hx1 hs', hB.sl _ _ hx2 (by have : s < A.syms.toNat := hs'; omega)⟩) (show s ≤ (prodW A B).m from hsm) hW
    have hcap' : o'.length ≤ 2000 := hMt.cap
    have hx' := preG_get hpr hx
    have hil := lt_of_get hx'
    have hpf : (pFrom o').length = o'.length := by unfold pFrom; rw [List.length_map]
    have hps : (pSym o').length = o'.length := by unfold pSym; rw [List.length_map]
    have q3' : En.one (PV.val r3') = true := hr3'
    have q4' : En.one (PV.val r4') = true := hr4'
    refine nav ?_
    (refine aC_region ?_ <;> refine xL 58 q_lss ?_ <;> refine aL_end (nav ?_) <;> try dsimp only)
    (first | refine cCd ?_ ?_ | refine cC ?_ ?_) <;> intro hb58
    · first
      | exact Bool.noConfusion hb58
      | (
       obtain ⟨mx, hm1, hm2, hm3⟩ := hA.mo x.1.1 s hx1 (by omega)
       obtain ⟨my, hn1, hn2, hn3⟩ := hB.mo x.1.2 s hx2 (by omega)
       have hml := hA.ml x.1.1 hx1
       have hnl := hB.ml x.1.2 hx2
       have d1 : ((List.range A.n.toNat).map fun s => pMvs (movesOf A s))[x.1.1 * 1]? = some (pMvs (movesOf A x.1.1)) := by rw [Nat.mul_one, range_at hx1]
       have d2 : ((List.range B.n.toNat).map fun s => pMvs (movesOf B s))[x.1.2 * 1]? = some (pMvs (movesOf B x.1.2)) := by rw [Nat.mul_one, range_at hx2]
       have d3 : ((movesOf A x.1.1).flatMap cMv)[s * 3 + 1]? = some (pInt (stepA A x.1.1 s : Nat)) := by rw [← hm3]; exact flat_at cMv_len hm1 (by decide)
       have d4 : ((movesOf B x.1.2).flatMap cMv)[s * 3 + 1]? = some (pInt (stepA B x.1.2 s : Nat)) := by rw [← hn3]; exact flat_at cMv_len hn1 (by decide)
       obtain ⟨y, hy⟩ : ∃ y : PrS, y = (prodW A B).step i x s := ⟨_, rfl⟩
       have hyk : keyI y = (((stepA A x.1.1 s : Nat) : Int), ((stepA B x.1.2 s : Nat) : Int)) := by rw [hy]; rfl
       have hy2 : y.2 = (((i : Nat) : Int), ((s : Nat) : Int)) := by rw [hy]; rfl
       have hyp : PairOk A B y := by rw [hy]; exact ⟨hA.sl _ _ hx1 (by omega), hB.sl _ _ hx2 (by omega)⟩
       have hy11 : y.1.1 = stepA A x.1.1 s := by rw [hy]; rfl
       have hy12 : y.1.2 = stepA B x.1.2 s := by rw [hy]; rfl
       have hyp1 : y.1.1 < A.n.toNat := hyp.1
       have hyp2 : y.1.2 < B.n.toNat := hyp.2
       rw [← hy11] at d3
       rw [← hy12] at d4
       have hid := keyI_id o' y
       have hlk := num_lookP o' y
       have hko : ∀ z ∈ numE keyI 0 o', piOk z.1 := fun z hz => by
        have hz1 : z.1 ∈ (numE keyI 0 o').map (·.1) := List.mem_map_of_mem hz
        rw [numE_keys] at hz1
        obtain ⟨u, hu, hue⟩ := List.mem_map.1 hz1
        have hup := hMt.p u hu
        have h1 : u.1.1 < A.n.toNat := hup.1
        have h2 : u.1.2 < B.n.toNat := hup.2
        rw [← hue]
        exact ⟨⟨by show (0 : Int) ≤ (u.1.1 : Nat); omega, by show ((u.1.1 : Nat) : Int) ≤ 1000000; omega⟩, ⟨by show (0 : Int) ≤ (u.1.2 : Nat); omega, by show ((u.1.2 : Nat) : Int) ≤ 1000000; omega⟩⟩
       have hkn : ((numE keyI 0 o').map (·.1)).Nodup := by
        rw [numE_keys]
        have hnd := hMt.nd
        refine map_nodup (nodup_of_map hnd) fun u hu v hv e => ?_
        obtain ⟨i1, hi1⟩ := List.getElem?_of_mem hu
        obtain ⟨i2, hi2⟩ := List.getElem?_of_mem hv
        have p1 := posK_idx hnd hi1
        have p2 := posK_idx hnd hi2
        have e2 : (prodW A B).key u = (prodW A B).key v := keyI_inj.1 e
        rw [e2, p2] at p1
        rw [p1, hi1] at hi2
        exact Option.some.inj hi2
       have hky : piOk (keyI y) := ⟨⟨by show (0 : Int) ≤ (y.1.1 : Nat); omega, by show ((y.1.1 : Nat) : Int) ≤ 1000000; omega⟩, ⟨by show (0 : Int) ≤ (y.1.2 : Nat); omega, by show ((y.1.2 : Nat) : Int) ≤ 1000000; omega⟩⟩
       have e3 := vec_len A.syms.toNat (fun j => pInt (rowAt r j))
       refine nav ?_
       (refine aC_region ?_ <;> refine xL 59 q_move ?_ <;> refine xL 17 q_assign ?_ <;> refine aL_end (nav ?_) <;> try dsimp only)
       (refine aC_draw (fun i => ([] : List Nat).elem i) [] (by kernel_rfl) ?_ <;> refine xD 0 60 rfl q_move ?_ <;> refine xD 1 61 rfl q_nilp ?_ <;> refine xD 2 62 rfl (q_fld tFl125_1_LdL) ?_ <;> (refine yD 3 63 rfl (q_ld tNa123_LdL) fun v63 hv63 => ?_; cases hv63) <;> refine xD 4 64 rfl q_move ?_ <;> refine xD 5 65 rfl (q_idxN tSl123_LdL) ?_ <;> (refine yD 6 66 rfl (q_ld tNa23_LdI) fun v66 hv66 => ?_; cases hv66) <;> refine xD 7 67 rfl q_move ?_ <;> refine xD 8 68 rfl (q_idxN tSl23_LdI) ?_ <;> refine xD 9 69 rfl (q_fld tFl72_1_LdI) ?_ <;> (refine yD 10 70 rfl (q_ld tNa3_LbB) fun v70 hv70 => ?_; cases hv70) <;> refine xD 11 71 rfl q_move ?_ <;> refine xD 12 72 rfl q_nilp ?_ <;> refine xD 13 73 rfl (q_fld tFl125_1_LdL) ?_ <;> (refine yD 14 74 rfl (q_ld tNa123_LdL) fun v74 hv74 => ?_; cases hv74) <;> refine xD 15 75 rfl q_move ?_ <;> refine xD 16 76 rfl (q_idxN tSl123_LdL) ?_ <;> (refine yD 17 77 rfl (q_ld tNa23_LdI) fun v77 hv77 => ?_; cases hv77) <;> refine xD 18 78 rfl q_move ?_ <;> refine xD 19 79 rfl (q_idxN tSl23_LdI) ?_ <;> refine xD 20 80 rfl (q_fld tFl72_1_LdI) ?_ <;> (refine yD 21 81 rfl (q_ld tNa3_LbB) fun v81 hv81 => ?_; cases hv81) <;> refine xD 22 82 rfl (q_build2 tAr151_LfP tZr151_LfP) ?_ <;> (refine aD_one 23 (by kernel_rfl) ?_) <;> (refine aW_run rfl fun w9 M9 N9 DQ back => ?_) <;> refine s_alloc [(.int .i64 0), (.int .i64 0)] 2 18 tZr151_LfP fun h18 => ?_ <;> refine aL_end (back _ (nrm ?_)) <;> (refine aD_one 24 (by kernel_rfl) ?_) <;> (refine aW_run rfl fun w9 M9 N9 DQ back => ?_) <;> refine s_sta 18 tAgg151_LfP ?_ <;> refine aL_end (back _ (nrm ?_)) <;> refine aD_end (by kernel_rfl) (nav ?_) <;> try dsimp only)
       (refine aC_region ?_ <;> refine xL 84 q_move ?_ <;> (refine yL 85 (q_ldao (k := 2) (ps := [pInt (y.1.1 : Nat), pInt (y.1.2 : Nat)]) 18 (by kernel_rfl)) fun v85 hv85 => ?_; cases hv85) <;> refine xL 86 (q_look2P (m := numE keyI 0 o') (k := keyI y) 306 tPi hko hkn hky hlk.1 hlk.2) ?_ <;> refine xL 83 q_move ?_ <;> refine xL 87 q_extract ?_ <;> refine xL 88 q_extract ?_ <;> refine xL 19 q_assign ?_ <;> refine xL 20 q_assign ?_ <;> refine aL_end (nav ?_) <;> try dsimp only)
       (refine aC_region ?_ <;> refine xL 89 q_move ?_ <;> refine xL 90 q_not ?_ <;> refine aL_end (nav ?_) <;> try dsimp only)
       refine aC_mid (fun z : { z : Value × Value × Value × List PrS × Nat // z.1.oneCell' = true ∧ z.2.1.oneCell' = true ∧ z.2.2.1.oneCell' = true ∧ visit (prodW A B).key (prodW A B).cap o' ((prodW A B).step i x s) = some (z.2.2.2.1, z.2.2.2.2) } => ⟨[(2, .int .i64 op, pInt op), (3, padd (sbase h3) 0, .val (padd (sbase h3) 0)), (4, padd (sbase h4) 0, .val (padd (sbase h4) 0)), (6, padd (sbase h6) 0, .val (padd (sbase h6) 0)), (7, .bool false, pBool false), (8, v22, pGr A), (9, v24, pGr B), (10, padd (sbase h10) 0, .val (padd (sbase h10) 0)), (11, z.1.2.2.1, .val z.1.2.2.1), (12, h33, .val h33), (13, .int .i64 i, pInt i), (14, .int .i64 x.1.1, pInt x.1.1), (15, .int .i64 x.1.2, pInt x.1.2), (16, h54, .val h54), (17, .int .i64 s, pInt s), (19, .int .i64 z.1.2.2.2.2, pInt z.1.2.2.2.2), (56, .int .i64 A.syms.toNat, pInt A.syms.toNat), (57, .int .i64 s, pInt s)], [(3, h3, .own 25 5 1 [pInt A.n, pInt A.syms, pInts A.start, pInts A.fin, pMvs A.moves]), (4, h4, .own 25 5 1 [pInt B.n, pInt B.syms, pInts B.start, pInts B.fin, pMvs B.moves]), (6, h6, .own 95 5 1 [pInt 0, .val (.slice none 0 0), .val (.slice none 0 0), .val (.slice none 0 0), .val (.slice none 0 0)]), (10, h10, .own 95 5 1 [pInt A.syms, .val r1, .val r2, .val z.1.1, .val z.1.2.1]), (301, r1, .own 22 1 rows.length (rows.map pNats)), (302, r2, .own 4 1 ((o.take i).map (prodF A B op)).length (((o.take i).map (prodF A B op)).map pBool)), (303, z.1.1, .own 3 1 (pFrom z.1.2.2.2.1).length ((pFrom z.1.2.2.2.1).map pInt)), (304, z.1.2.1, .own 3 1 (pSym z.1.2.2.2.1).length ((pSym z.1.2.2.2.1).map pInt)), (305, z.1.2.2.1, .own 151 2 z.1.2.2.2.1.length (z.1.2.2.2.1.flatMap cPr)), (306, h33, .omap (pikv (numE keyI 0 z.1.2.2.2.1))), (54, h54, .own 3 1 A.syms.toNat (vec A.syms.toNat fun j => pInt (rowAt r j)))]⟩) ?_ ?_
       · (first | refine cCd ?_ ?_ | refine cC ?_ ?_) <;> intro hb90
         · first
           | exact Bool.noConfusion hb90
           | (
            have hnew : ¬ posK keyI o' (keyI y) < o'.length := by simpa using hb90
            have hnew2 : ¬ posK (prodW A B).key o' ((prodW A B).key ((prodW A B).step i x s)) < o'.length := by
             rw [← hy]
             show ¬ posK Prod.fst o' y.1 < o'.length
             rw [← hid]; exact hnew
            have hno : aget (numE keyI 0 o') (keyI y) = none := by rw [numE_get, if_neg hnew]
            refine nav ?_
            (refine aC_region ?_ <;> refine xL 91 q_move ?_ <;> refine xL 92 (q_leno 305 tSl152_LfP) ?_ <;> refine xL 19 q_assign ?_ <;> refine aL_end (nav ?_) <;> try dsimp only)
            (refine aC_region ?_ <;> refine xL 93 q_move ?_ <;> refine xL 94 q_geq ?_ <;> refine aL_end (nav ?_) <;> try dsimp only)
            (first | refine cCd ?_ ?_ | refine cC ?_ ?_) <;> intro hb94
            · first
              | exact Bool.noConfusion hb94
              | (
               refine nav ?_
               (refine aC_region ?_ <;> (refine yL 95 (q_ldao (k := 5) (ps := [pInt A.syms, PV.val r1, PV.val r2, PV.val r3', PV.val r4']) 10 (by kernel_rfl)) fun v95 hv95 => ?_; cases hv95) <;> refine s_sta 6 tAgg95_LfP ?_ <;> refine xL 7 q_assign ?_ <;> refine aL_end (nav ?_) <;> try dsimp only)
               refine ret_cs (k := 5) 6 (by kernel_rfl) (Tryz.results104) rfl rfl rfl (Nat.le_of_ble_eq_true rfl) (by decide) rfl (.inr ⟨?_, _, _, _, _, _, rfl, hr1, hr2, hr3', hr4', rfl⟩)
               have hv := visit_no hnew2 (show (prodW A B).cap ≤ o'.length by show 2000 ≤ o'.length; omega)
               have h1 := Srch.row_fails (Srch.row_out hW hv) (show s + 1 ≤ (prodW A B).m by show s + 1 ≤ A.syms.toNat; omega)
               exact Srch.all_none (Srch.upto_out hU hx h1) (show i + 1 ≤ (prodW A B).cap by show i + 1 ≤ 2000; omega))
            · first
              | exact Bool.noConfusion hb94
              | (
               refine nav ?_
               (refine aC_region ?_ <;> refine xL 96 q_move ?_ <;> (refine yL 97 (q_ldao (k := 2) (ps := [pInt (y.1.1 : Nat), pInt (y.1.2 : Nat)]) 18 (by kernel_rfl)) fun v97 hv97 => ?_; cases hv97) <;> refine xL 98 q_move ?_ <;> (refine s_mput2 (m := numE keyI 0 o') (k := keyI y) 306 tPi hko hkn hky hno ?_; rw [show numE keyI 0 o' ++ [(keyI y, Value.int .i64 ((o'.length : Nat) : Int))] = numE keyI 0 (o' ++ [y]) by rw [numE_snoc, Nat.zero_add]]) <;> refine aL_end (nav ?_) <;> try dsimp only)
               (refine aC_draw (fun i => ([16, 17, 18] : List Nat).elem i) [10, 18] (by kernel_rfl) ?_ <;> refine xDT 0 99 rfl q_move ?_ <;> (refine yDT 1 100 rfl (q_ldao (k := 2) (ps := [pInt (y.1.1 : Nat), pInt (y.1.2 : Nat)]) 18 (by kernel_rfl)) fun v100 hv100 => ?_; cases hv100) <;> refine xDT 4 103 rfl (q_fldo 10 tFl95_1_LfP) ?_ <;> (refine yDT 5 104 rfl (q_ldo 10 tNa22_LdI) fun v104 hv104 => ?_; cases hv104) <;> refine xDT 6 105 rfl q_move ?_ <;> refine xDT 9 108 rfl (q_fldo 10 tFl95_2_LfP) ?_ <;> (refine yDT 10 109 rfl (q_ldo 10 tNa22_LdI) fun v109 hv109 => ?_; cases hv109) <;> refine xDT 11 110 rfl q_move ?_ <;> (refine aD_three 2 7 12 (by kernel_rfl) ?_ ?_ ?_; rotate_right; (focus ((refine aW_run rfl fun w9 M9 N9 DQ back => ?_) <;> refine s_lit1 (kk := 1) 111 tEl22_LdI fun h111 ho111 => ?_ <;> refine aL_end (back _ (nrm ?_)) <;> (refine aD_two 2 7 (by kernel_rfl) ?_ ?_; rotate_right; (focus ((refine aW_run rfl fun w9 M9 N9 DQ back => ?_) <;> refine s_lit1 (kk := 1) 106 tEl22_LdI fun h106 ho106 => ?_ <;> refine aL_end (back _ (nrm ?_)) <;> (refine aD_one 2 (by kernel_rfl) ?_) <;> (refine aW_run rfl fun w9 M9 N9 DQ back => ?_) <;> refine s_lit1a 101 tEl152_LfP fun h101 ho101 => ?_ <;> refine aL_end (back _ (nrm ?_)) <;> (refine aD_one 3 (by kernel_rfl) ?_) <;> (refine aW_run rfl fun w9 M9 N9 DQ back => ?_) <;> refine s_app 305 101 102 tEl152_LfP fun h102 ho102 => ?_ <;> refine aL_end (back _ (nrm ?_)) <;> (refine aD_one 8 (by kernel_rfl) ?_) <;> (refine aW_run rfl fun w9 M9 N9 DQ back => ?_) <;> (refine s_app 303 106 107 tEl22_LdI fun h107 ho107 => ?_; have q107 : En.one (PV.val h107) = true := ho107) <;> refine aL_end (back _ (nrm ?_)) <;> (refine aD_one 13 (by kernel_rfl) ?_) <;> (refine aW_run rfl fun w9 M9 N9 DQ back => ?_) <;> (refine s_app 304 111 112 tEl22_LdI fun h112 ho112 => ?_; have q112 : En.one (PV.val h112) = true := ho112) <;> refine aL_end (back _ (nrm ?_)) <;> refine xE 14 11 rfl q_assign ?_ <;> refine xE 15 113 rfl (q_fldo 10 tFl95_1_LfP) ?_)); rotate_right; (focus ((refine aW_run rfl fun w9 M9 N9 DQ back => ?_) <;> refine s_lit1a 101 tEl152_LfP fun h101 ho101 => ?_ <;> refine aL_end (back _ (nrm ?_)) <;> (refine aD_two 3 7 (by kernel_rfl) ?_ ?_; rotate_right; (focus ((refine aW_run rfl fun w9 M9 N9 DQ back => ?_) <;> refine s_lit1 (kk := 1) 106 tEl22_LdI fun h106 ho106 => ?_ <;> refine aL_end (back _ (nrm ?_)) <;> (refine aD_one 3 (by kernel_rfl) ?_) <;> (refine aW_run rfl fun w9 M9 N9 DQ back => ?_) <;> refine s_app 305 101 102 tEl152_LfP fun h102 ho102 => ?_ <;> refine aL_end (back _ (nrm ?_)) <;> (refine aD_one 8 (by kernel_rfl) ?_) <;> (refine aW_run rfl fun w9 M9 N9 DQ back => ?_) <;> (refine s_app 303 106 107 tEl22_LdI fun h107 ho107 => ?_; have q107 : En.one (PV.val h107) = true := ho107) <;> refine aL_end (back _ (nrm ?_)) <;> (refine aD_one 13 (by kernel_rfl) ?_) <;> (refine aW_run rfl fun w9 M9 N9 DQ back => ?_) <;> (refine s_app 304 111 112 tEl22_LdI fun h112 ho112 => ?_; have q112 : En.one (PV.val h112) = true := ho112) <;> refine aL_end (back _ (nrm ?_)) <;> refine xE 14 11 rfl q_assign ?_ <;> refine xE 15 113 rfl (q_fldo 10 tFl95_1_LfP) ?_)); rotate_right; (focus ((refine aW_run rfl fun w9 M9 N9 DQ back => ?_) <;> refine s_app 305 101 102 tEl152_LfP fun h102 ho102 => ?_ <;> refine aL_end (back _ (nrm ?_)) <;> (refine aD_one 7 (by kernel_rfl) ?_) <;> (refine aW_run rfl fun w9 M9 N9 DQ back => ?_) <;> refine s_lit1 (kk := 1) 106 tEl22_LdI fun h106 ho106 => ?_ <;> refine aL_end (back _ (nrm ?_)) <;> (refine aD_one 8 (by kernel_rfl) ?_) <;> (refine aW_run rfl fun w9 M9 N9 DQ back => ?_) <;> (refine s_app 303 106 107 tEl22_LdI fun h107 ho107 => ?_; have q107 : En.one (PV.val h107) = true := ho107) <;> refine aL_end (back _ (nrm ?_)) <;> (refine aD_one 13 (by kernel_rfl) ?_) <;> (refine aW_run rfl fun w9 M9 N9 DQ back => ?_) <;> (refine s_app 304 111 112 tEl22_LdI fun h112 ho112 => ?_; have q112 : En.one (PV.val h112) = true := ho112) <;> refine aL_end (back _ (nrm ?_)) <;> refine xE 14 11 rfl q_assign ?_ <;> refine xE 15 113 rfl (q_fldo 10 tFl95_1_LfP) ?_)))))))); rotate_right; (focus ((refine aW_run rfl fun w9 M9 N9 DQ back => ?_) <;> refine s_lit1 (kk := 1) 106 tEl22_LdI fun h106 ho106 => ?_ <;> refine aL_end (back _ (nrm ?_)) <;> (refine aD_two 2 12 (by kernel_rfl) ?_ ?_; rotate_right; (focus ((refine aW_run rfl fun w9 M9 N9 DQ back => ?_) <;> refine s_lit1 (kk := 1) 111 tEl22_LdI fun h111 ho111 => ?_ <;> refine aL_end (back _ (nrm ?_)) <;> (refine aD_one 2 (by kernel_rfl) ?_) <;> (refine aW_run rfl fun w9 M9 N9 DQ back => ?_) <;> refine s_lit1a 101 tEl152_LfP fun h101 ho101 => ?_ <;> refine aL_end (back _ (nrm ?_)) <;> (refine aD_one 3 (by kernel_rfl) ?_) <;> (refine aW_run rfl fun w9 M9 N9 DQ back => ?_) <;> refine s_app 305 101 102 tEl152_LfP fun h102 ho102 => ?_ <;> refine aL_end (back _ (nrm ?_)) <;> (refine aD_one 8 (by kernel_rfl) ?_) <;> (refine aW_run rfl fun w9 M9 N9 DQ back => ?_) <;> (refine s_app 303 106 107 tEl22_LdI fun h107 ho107 => ?_; have q107 : En.one (PV.val h107) = true := ho107) <;> refine aL_end (back _ (nrm ?_)) <;> (refine aD_one 13 (by kernel_rfl) ?_) <;> (refine aW_run rfl fun w9 M9 N9 DQ back => ?_) <;> (refine s_app 304 111 112 tEl22_LdI fun h112 ho112 => ?_; have q112 : En.one (PV.val h112) = true := ho112) <;> refine aL_end (back _ (nrm ?_)) <;> refine xE 14 11 rfl q_assign ?_ <;> refine xE 15 113 rfl (q_fldo 10 tFl95_1_LfP) ?_)); rotate_right; (focus ((refine aW_run rfl fun w9 M9 N9 DQ back => ?_) <;> refine s_lit1a 101 tEl152_LfP fun h101 ho101 => ?_ <;> refine aL_end (back _ (nrm ?_)) <;> (refine aD_two 3 12 (by kernel_rfl) ?_ ?_; rotate_right; (focus ((refine aW_run rfl fun w9 M9 N9 DQ back => ?_) <;> refine s_lit1 (kk := 1) 111 tEl22_LdI fun h111 ho111 => ?_ <;> refine aL_end (back _ (nrm ?_)) <;> (refine aD_one 3 (by kernel_rfl) ?_) <;> (refine aW_run rfl fun w9 M9 N9 DQ back => ?_) <;> refine s_app 305 101 102 tEl152_LfP fun h102 ho102 => ?_ <;> refine aL_end (back _ (nrm ?_)) <;> (refine aD_one 8 (by kernel_rfl) ?_) <;> (refine aW_run rfl fun w9 M9 N9 DQ back => ?_) <;> (refine s_app 303 106 107 tEl22_LdI fun h107 ho107 => ?_; have q107 : En.one (PV.val h107) = true := ho107) <;> refine aL_end (back _ (nrm ?_)) <;> (refine aD_one 13 (by kernel_rfl) ?_) <;> (refine aW_run rfl fun w9 M9 N9 DQ back => ?_) <;> (refine s_app 304 111 112 tEl22_LdI fun h112 ho112 => ?_; have q112 : En.one (PV.val h112) = true := ho112) <;> refine aL_end (back _ (nrm ?_)) <;> refine xE 14 11 rfl q_assign ?_ <;> refine xE 15 113 rfl (q_fldo 10 tFl95_1_LfP) ?_)); rotate_right; (focus ((refine aW_run rfl fun w9 M9 N9 DQ back => ?_) <;> refine s_app 305 101 102 tEl152_LfP fun h102 ho102 => ?_ <;> refine aL_end (back _ (nrm ?_)) <;> (refine aD_two 8 12 (by kernel_rfl) ?_ ?_; rotate_right; (focus ((refine aW_run rfl fun w9 M9 N9 DQ back => ?_) <;> refine s_lit1 (kk := 1) 111 tEl22_LdI fun h111 ho111 => ?_ <;> refine aL_end (back _ (nrm ?_)) <;> (refine aD_one 8 (by kernel_rfl) ?_) <;> (refine aW_run rfl fun w9 M9 N9 DQ back => ?_) <;> (refine s_app 303 106 107 tEl22_LdI fun h107 ho107 => ?_; have q107 : En.one (PV.val h107) = true := ho107) <;> refine aL_end (back _ (nrm ?_)) <;> (refine aD_one 13 (by kernel_rfl) ?_) <;> (refine aW_run rfl fun w9 M9 N9 DQ back => ?_) <;> (refine s_app 304 111 112 tEl22_LdI fun h112 ho112 => ?_; have q112 : En.one (PV.val h112) = true := ho112) <;> refine aL_end (back _ (nrm ?_)) <;> refine xE 14 11 rfl q_assign ?_ <;> refine xE 15 113 rfl (q_fldo 10 tFl95_1_LfP) ?_)); rotate_right; (focus ((refine aW_run rfl fun w9 M9 N9 DQ back => ?_) <;> (refine s_app 303 106 107 tEl22_LdI fun h107 ho107 => ?_; have q107 : En.one (PV.val h107) = true := ho107) <;> refine aL_end (back _ (nrm ?_)) <;> (refine aD_one 12 (by kernel_rfl) ?_) <;> (refine aW_run rfl fun w9 M9 N9 DQ back => ?_) <;> refine s_lit1 (kk := 1) 111 tEl22_LdI fun h111 ho111 => ?_ <;> refine aL_end (back _ (nrm ?_)) <;> (refine aD_one 13 (by kernel_rfl) ?_) <;> (refine aW_run rfl fun w9 M9 N9 DQ back => ?_) <;> (refine s_app 304 111 112 tEl22_LdI fun h112 ho112 => ?_; have q112 : En.one (PV.val h112) = true := ho112) <;> refine aL_end (back _ (nrm ?_)) <;> refine xE 14 11 rfl q_assign ?_ <;> refine xE 15 113 rfl (q_fldo 10 tFl95_1_LfP) ?_))))))))))); rotate_right; (focus ((refine aW_run rfl fun w9 M9 N9 DQ back => ?_) <;> refine s_lit1a 101 tEl152_LfP fun h101 ho101 => ?_ <;> refine aL_end (back _ (nrm ?_)) <;> (refine aD_three 3 7 12 (by kernel_rfl) ?_ ?_ ?_; rotate_right; (focus ((refine aW_run rfl fun w9 M9 N9 DQ back => ?_) <;> refine s_lit1 (kk := 1) 111 tEl22_LdI fun h111 ho111 => ?_ <;> refine aL_end (back _ (nrm ?_)) <;> (refine aD_two 3 7 (by kernel_rfl) ?_ ?_; rotate_right; (focus ((refine aW_run rfl fun w9 M9 N9 DQ back => ?_) <;> refine s_lit1 (kk := 1) 106 tEl22_LdI fun h106 ho106 => ?_ <;> refine aL_end (back _ (nrm ?_)) <;> (refine aD_one 3 (by kernel_rfl) ?_) <;> (refine aW_run rfl fun w9 M9 N9 DQ back => ?_) <;> refine s_app 305 101 102 tEl152_LfP fun h102 ho102 => ?_ <;> refine aL_end (back _ (nrm ?_)) <;> (refine aD_one 8 (by kernel_rfl) ?_) <;> (refine aW_run rfl fun w9 M9 N9 DQ back => ?_) <;> (refine s_app 303 106 107 tEl22_LdI fun h107 ho107 => ?_; have q107 : En.one (PV.val h107) = true := ho107) <;> refine aL_end (back _ (nrm ?_)) <;> (refine aD_one 13 (by kernel_rfl) ?_) <;> (refine aW_run rfl fun w9 M9 N9 DQ back => ?_) <;> (refine s_app 304 111 112 tEl22_LdI fun h112 ho112 => ?_; have q112 : En.one (PV.val h112) = true := ho112) <;> refine aL_end (back _ (nrm ?_)) <;> refine xE 14 11 rfl q_assign ?_ <;> refine xE 15 113 rfl (q_fldo 10 tFl95_1_LfP) ?_)); rotate_right; (focus ((refine aW_run rfl fun w9 M9 N9 DQ back => ?_) <;> refine s_app 305 101 102 tEl152_LfP fun h102 ho102 => ?_ <;> refine aL_end (back _ (nrm ?_)) <;> (refine aD_one 7 (by kernel_rfl) ?_) <;> (refine aW_run rfl fun w9 M9 N9 DQ back => ?_) <;> refine s_lit1 (kk := 1) 106 tEl22_LdI fun h106 ho106 => ?_ <;> refine aL_end (back _ (nrm ?_)) <;> (refine aD_one 8 (by kernel_rfl) ?_) <;> (refine aW_run rfl fun w9 M9 N9 DQ back => ?_) <;> (refine s_app 303 106 107 tEl22_LdI fun h107 ho107 => ?_; have q107 : En.one (PV.val h107) = true := ho107) <;> refine aL_end (back _ (nrm ?_)) <;> (refine aD_one 13 (by kernel_rfl) ?_) <;> (refine aW_run rfl fun w9 M9 N9 DQ back => ?_) <;> (refine s_app 304 111 112 tEl22_LdI fun h112 ho112 => ?_; have q112 : En.one (PV.val h112) = true := ho112) <;> refine aL_end (back _ (nrm ?_)) <;> refine xE 14 11 rfl q_assign ?_ <;> refine xE 15 113 rfl (q_fldo 10 tFl95_1_LfP) ?_))))); rotate_right; (focus ((refine aW_run rfl fun w9 M9 N9 DQ back => ?_) <;> refine s_lit1 (kk := 1) 106 tEl22_LdI fun h106 ho106 => ?_ <;> refine aL_end (back _ (nrm ?_)) <;> (refine aD_two 3 12 (by kernel_rfl) ?_ ?_; rotate_right; (focus ((refine aW_run rfl fun w9 M9 N9 DQ back => ?_) <;> refine s_lit1 (kk := 1) 111 tEl22_LdI fun h111 ho111 => ?_ <;> refine aL_end (back _ (nrm ?_)) <;> (refine aD_one 3 (by kernel_rfl) ?_) <;> (refine aW_run rfl fun w9 M9 N9 DQ back => ?_) <;> refine s_app 305 101 102 tEl152_LfP fun h102 ho102 => ?_ <;> refine aL_end (back _ (nrm ?_)) <;> (refine aD_one 8 (by kernel_rfl) ?_) <;> (refine aW_run rfl fun w9 M9 N9 DQ back => ?_) <;> (refine s_app 303 106 107 tEl22_LdI fun h107 ho107 => ?_; have q107 : En.one (PV.val h107) = true := ho107) <;> refine aL_end (back _ (nrm ?_)) <;> (refine aD_one 13 (by kernel_rfl) ?_) <;> (refine aW_run rfl fun w9 M9 N9 DQ back => ?_) <;> (refine s_app 304 111 112 tEl22_LdI fun h112 ho112 => ?_; have q112 : En.one (PV.val h112) = true := ho112) <;> refine aL_end (back _ (nrm ?_)) <;> refine xE 14 11 rfl q_assign ?_ <;> refine xE 15 113 rfl (q_fldo 10 tFl95_1_LfP) ?_)); rotate_right; (focus ((refine aW_run rfl fun w9 M9 N9 DQ back => ?_) <;> refine s_app 305 101 102 tEl152_LfP fun h102 ho102 => ?_ <;> refine aL_end (back _ (nrm ?_)) <;> (refine aD_two 8 12 (by kernel_rfl) ?_ ?_; rotate_right; (focus ((refine aW_run rfl fun w9 M9 N9 DQ back => ?_) <;> refine s_lit1 (kk := 1) 111 tEl22_LdI fun h111 ho111 => ?_ <;> refine aL_end (back _ (nrm ?_)) <;> (refine aD_one 8 (by kernel_rfl) ?_) <;> (refine aW_run rfl fun w9 M9 N9 DQ back => ?_) <;> (refine s_app 303 106 107 tEl22_LdI fun h107 ho107 => ?_; have q107 : En.one (PV.val h107) = true := ho107) <;> refine aL_end (back _ (nrm ?_)) <;> (refine aD_one 13 (by kernel_rfl) ?_) <;> (refine aW_run rfl fun w9 M9 N9 DQ back => ?_) <;> (refine s_app 304 111 112 tEl22_LdI fun h112 ho112 => ?_; have q112 : En.one (PV.val h112) = true := ho112) <;> refine aL_end (back _ (nrm ?_)) <;> refine xE 14 11 rfl q_assign ?_ <;> refine xE 15 113 rfl (q_fldo 10 tFl95_1_LfP) ?_)); rotate_right; (focus ((refine aW_run rfl fun w9 M9 N9 DQ back => ?_) <;> (refine s_app 303 106 107 tEl22_LdI fun h107 ho107 => ?_; have q107 : En.one (PV.val h107) = true := ho107) <;> refine aL_end (back _ (nrm ?_)) <;> (refine aD_one 12 (by kernel_rfl) ?_) <;> (refine aW_run rfl fun w9 M9 N9 DQ back => ?_) <;> refine s_lit1 (kk := 1) 111 tEl22_LdI fun h111 ho111 => ?_ <;> refine aL_end (back _ (nrm ?_)) <;> (refine aD_one 13 (by kernel_rfl) ?_) <;> (refine aW_run rfl fun w9 M9 N9 DQ back => ?_) <;> (refine s_app 304 111 112 tEl22_LdI fun h112 ho112 => ?_; have q112 : En.one (PV.val h112) = true := ho112) <;> refine aL_end (back _ (nrm ?_)) <;> refine xE 14 11 rfl q_assign ?_ <;> refine xE 15 113 rfl (q_fldo 10 tFl95_1_LfP) ?_)))))))); rotate_right; (focus ((refine aW_run rfl fun w9 M9 N9 DQ back => ?_) <;> refine s_app 305 101 102 tEl152_LfP fun h102 ho102 => ?_ <;> refine aL_end (back _ (nrm ?_)) <;> (refine aD_two 7 12 (by kernel_rfl) ?_ ?_; rotate_right; (focus ((refine aW_run rfl fun w9 M9 N9 DQ back => ?_) <;> refine s_lit1 (kk := 1) 111 tEl22_LdI fun h111 ho111 => ?_ <;> refine aL_end (back _ (nrm ?_)) <;> (refine aD_one 7 (by kernel_rfl) ?_) <;> (refine aW_run rfl fun w9 M9 N9 DQ back => ?_) <;> refine s_lit1 (kk := 1) 106 tEl22_LdI fun h106 ho106 => ?_ <;> refine aL_end (back _ (nrm ?_)) <;> (refine aD_one 8 (by kernel_rfl) ?_) <;> (refine aW_run rfl fun w9 M9 N9 DQ back => ?_) <;> (refine s_app 303 106 107 tEl22_LdI fun h107 ho107 => ?_; have q107 : En.one (PV.val h107) = true := ho107) <;> refine aL_end (back _ (nrm ?_)) <;> (refine aD_one 13 (by kernel_rfl) ?_) <;> (refine aW_run rfl fun w9 M9 N9 DQ back => ?_) <;> (refine s_app 304 111 112 tEl22_LdI fun h112 ho112 => ?_; have q112 : En.one (PV.val h112) = true := ho112) <;> refine aL_end (back _ (nrm ?_)) <;> refine xE 14 11 rfl q_assign ?_ <;> refine xE 15 113 rfl (q_fldo 10 tFl95_1_LfP) ?_)); rotate_right; (focus ((refine aW_run rfl fun w9 M9 N9 DQ back => ?_) <;> refine s_lit1 (kk := 1) 106 tEl22_LdI fun h106 ho106 => ?_ <;> refine aL_end (back _ (nrm ?_)) <;> (refine aD_two 8 12 (by kernel_rfl) ?_ ?_; rotate_right; (focus ((refine aW_run rfl fun w9 M9 N9 DQ back => ?_) <;> refine s_lit1 (kk := 1) 111 tEl22_LdI fun h111 ho111 => ?_ <;> refine aL_end (back _ (nrm ?_)) <;> (refine aD_one 8 (by kernel_rfl) ?_) <;> (refine aW_run rfl fun w9 M9 N9 DQ back => ?_) <;> (refine s_app 303 106 107 tEl22_LdI fun h107 ho107 => ?_; have q107 : En.one (PV.val h107) = true := ho107) <;> refine aL_end (back _ (nrm ?_)) <;> (refine aD_one 13 (by kernel_rfl) ?_) <;> (refine aW_run rfl fun w9 M9 N9 DQ back => ?_) <;> (refine s_app 304 111 112 tEl22_LdI fun h112 ho112 => ?_; have q112 : En.one (PV.val h112) = true := ho112) <;> refine aL_end (back _ (nrm ?_)) <;> refine xE 14 11 rfl q_assign ?_ <;> refine xE 15 113 rfl (q_fldo 10 tFl95_1_LfP) ?_)); rotate_right; (focus ((refine aW_run rfl fun w9 M9 N9 DQ back => ?_) <;> (refine s_app 303 106 107 tEl22_LdI fun h107 ho107 => ?_; have q107 : En.one (PV.val h107) = true := ho107) <;> refine aL_end (back _ (nrm ?_)) <;> (refine aD_one 12 (by kernel_rfl) ?_) <;> (refine aW_run rfl fun w9 M9 N9 DQ back => ?_) <;> refine s_lit1 (kk := 1) 111 tEl22_LdI fun h111 ho111 => ?_ <;> refine aL_end (back _ (nrm ?_)) <;> (refine aD_one 13 (by kernel_rfl) ?_) <;> (refine aW_run rfl fun w9 M9 N9 DQ back => ?_) <;> (refine s_app 304 111 112 tEl22_LdI fun h112 ho112 => ?_; have q112 : En.one (PV.val h112) = true := ho112) <;> refine aL_end (back _ (nrm ?_)) <;> refine xE 14 11 rfl q_assign ?_ <;> refine xE 15 113 rfl (q_fldo 10 tFl95_1_LfP) ?_)))))))))))) <;> (refine aD_one 16 (by kernel_rfl) ?_) <;> (refine aW_thenZ rfl rfl fun DQ back => ?_) <;> refine s_st 10 tNa22_LdI tSz22_LdK ?_ <;> refine aL_end (back _ ?_) <;> (refine aDZ_one 17 (by kernel_rfl) rfl rfl fun DQ back => ?_) <;> refine xL 114 (q_fldo 10 tFl95_2_LfP) ?_ <;> refine aL_end (back _ ?_) <;> (refine aDZ_one 18 (by kernel_rfl) rfl rfl fun DQ back => ?_) <;> refine s_st 10 tNa22_LdI tSz22_LdK ?_ <;> refine aL_end (back _ ?_) <;> refine aDZ_end (by kernel_rfl) (nav ?_) <;> try dsimp only) <;> (
                first
                 | (refine aN_ent (relabel (l := 102) 305 rfl rfl) fun _ => ?_
                    refine aN_ent (recast (l := 305) rfl (snoc_pr _ o' y)) fun _ => ?_
                    refine aN_ent (relabel (l := 107) 303 rfl rfl) fun _ => ?_
                    refine aN_ent (recast (l := 303) (p' := .own 3 1 (pFrom (o' ++ [y])).length ((pFrom (o' ++ [y])).map pInt)) rfl ((own_ints _ (pFrom o') i).trans (by rw [from_snoc, hy2]))) fun _ => ?_
                    refine aN_ent (relabel (l := 112) 304 rfl rfl) fun _ => ?_
                    refine aN_ent (recast (l := 304) (p' := .own 3 1 (pSym (o' ++ [y])).length ((pSym (o' ++ [y])).map pInt)) rfl ((own_ints _ (pSym o') s).trans (by rw [sym_snoc, hy2]))) fun _ => ?_
                    exact aN_join ⟨(h107, h112, h102, o' ++ [y], o'.length), ho107, ho112, ho102, by dsimp only; rw [hy]; exact visit_new hnew2 (show o'.length < 2000 by omega)⟩ ⟨rfl, rfl, rfl, rfl, rfl, rfl, rfl, rfl, rfl, rfl, rfl, rfl, rfl, rfl, rfl, rfl, rfl, rfl, trivial⟩ ⟨rfl, rfl, rfl, rfl, rfl, rfl, rfl, rfl, rfl, rfl, rfl, trivial⟩)
                 | exact aN_join ⟨(r3', r4', r5', o', posK keyI o' (keyI y)), hr3', hr4', hr5', by dsimp only; rw [hid, hy]; exact visit_old hold2⟩ ⟨rfl, rfl, rfl, rfl, rfl, rfl, rfl, rfl, rfl, rfl, rfl, rfl, rfl, rfl, rfl, rfl, rfl, rfl, trivial⟩ ⟨rfl, rfl, rfl, rfl, rfl, rfl, rfl, rfl, rfl, rfl, rfl, trivial⟩)))
         · first
           | exact Bool.noConfusion hb90
           | (
            have hold : posK keyI o' (keyI y) < o'.length := by simpa using hb90
            have hold2 : posK (prodW A B).key o' ((prodW A B).key ((prodW A B).step i x s)) < o'.length := by
             rw [← hy]
             show posK Prod.fst o' y.1 < o'.length
             rw [← hid]; exact hold
            rw [if_pos hold]
            refine nav ?_
            first
             | (refine aN_ent (relabel (l := 102) 305 rfl rfl) fun _ => ?_
                refine aN_ent (recast (l := 305) rfl (snoc_pr _ o' y)) fun _ => ?_
                refine aN_ent (relabel (l := 107) 303 rfl rfl) fun _ => ?_
                refine aN_ent (recast (l := 303) (p' := .own 3 1 (pFrom (o' ++ [y])).length ((pFrom (o' ++ [y])).map pInt)) rfl ((own_ints _ (pFrom o') i).trans (by rw [from_snoc, hy2]))) fun _ => ?_
                refine aN_ent (relabel (l := 112) 304 rfl rfl) fun _ => ?_
                refine aN_ent (recast (l := 304) (p' := .own 3 1 (pSym (o' ++ [y])).length ((pSym (o' ++ [y])).map pInt)) rfl ((own_ints _ (pSym o') s).trans (by rw [sym_snoc, hy2]))) fun _ => ?_
                exact aN_join ⟨(h107, h112, h102, o' ++ [y], o'.length), ho107, ho112, ho102, by dsimp only; rw [hy]; exact visit_new hnew2 (show o'.length < 2000 by omega)⟩ ⟨rfl, rfl, rfl, rfl, rfl, rfl, rfl, rfl, rfl, rfl, rfl, rfl, rfl, rfl, rfl, rfl, rfl, rfl, trivial⟩ ⟨rfl, rfl, rfl, rfl, rfl, rfl, rfl, rfl, rfl, rfl, rfl, trivial⟩)
             | exact aN_join ⟨(r3', r4', r5', o', posK keyI o' (keyI y)), hr3', hr4', hr5', by dsimp only; rw [hid, hy]; exact visit_old hold2⟩ ⟨rfl, rfl, rfl, rfl, rfl, rfl, rfl, rfl, rfl, rfl, rfl, rfl, rfl, rfl, rfl, rfl, rfl, rfl, trivial⟩ ⟨rfl, rfl, rfl, rfl, rfl, rfl, rfl, rfl, rfl, rfl, rfl, trivial⟩)
       · rintro ⟨⟨g3, g4, g5, o2, n2⟩, w3, w4, w5, hvis⟩
         dsimp only at w3 w4 w5 hvis ⊢
         refine nav ?_
         (refine aC_region ?_ <;> refine xL 115 q_move ?_ <;> refine xL 116 q_move ?_ <;> refine xL 117 q_move ?_ <;> refine xL 118 (q_idxoN 54 tSl22_LbB) ?_ <;> refine s_st 54 tNa3_LbB tSz3_LdJ ?_ <;> refine aL_end (nav ?_) <;> try dsimp only)
         (refine aC_region ?_ <;> refine xL 119 q_add ?_ <;> refine xL 57 q_move ?_ <;> refine aL_end (nav ?_) <;> try dsimp only)
         rw [show s * 1 = r.length * 1 by omega, rowAt_set _ (by omega)]
         refine aN_again (
          ⟨(s + 1, g3, g4, g5, o2, r ++ [n2]), Srch.row_snoc hW hvis, (by dsimp only; omega), w3, w4, w5⟩
          ) (by dsimp only; omega) ⟨rfl, rfl, rfl, rfl, rfl, rfl, rfl, rfl, rfl, rfl, rfl, rfl, rfl, rfl, rfl, rfl, trivial⟩ ⟨rfl, rfl, rfl, rfl, rfl, rfl, rfl, rfl, rfl, rfl, rfl, trivial⟩)
    · first
      | exact Bool.noConfusion hb58
      | (
       have hse : s = A.syms.toNat := by omega
       subst hse
       have hU2 := Srch.upto_snoc hU hx hW
       have htk : o'.take (i + 1) = (o.take i) ++ [x] := by
        rw [take_snoc hx']
        obtain ⟨e, rfl⟩ := hpr
        rw [List.take_append_of_le_length hi]
       have f1 : ((List.range A.n.toNat).map fun s => pBool (finB A (s : Nat)))[x.1.1 * 1]? = some (pBool (finB A (x.1.1 : Nat))) := by rw [Nat.mul_one, range_at hx1]
       have f2 : ((List.range B.n.toNat).map fun s => pBool (finB B (s : Nat)))[x.1.2 * 1]? = some (pBool (finB B (x.1.2 : Nat))) := by rw [Nat.mul_one, range_at hx2]
       refine nav ?_
       refine aC_ent (En.freeze (l := 54) (t := 16) rfl rfl) fun _ => ?_
       rw [share_row _ _ _ hrl]
       (refine aC_draw (fun i => ([29, 30, 31, 32] : List Nat).elem i) [10] (by kernel_rfl) ?_ <;> refine xDT 0 120 rfl (q_fldo 10 tFl95_0_LfP) ?_ <;> refine xDT 1 121 rfl (q_fldo 10 tFl93_1_LfB) ?_ <;> (refine yDT 2 122 rfl (q_ldo 10 tNa28_LfB) fun v122 hv122 => ?_; cases hv122) <;> refine xDT 3 123 rfl q_move ?_ <;> refine xDT 6 126 rfl (q_fldo 10 tFl95_0_LfP) ?_ <;> refine xDT 7 127 rfl (q_fldo 10 tFl93_2_LfB) ?_ <;> (refine yDT 8 128 rfl (q_ldo 10 tNa66_LdJ) fun v128 hv128 => ?_; cases hv128) <;> refine xDT 9 129 rfl q_move ?_ <;> refine xDT 10 130 rfl q_move ?_ <;> refine xDT 11 131 rfl q_nilp ?_ <;> refine xDT 12 132 rfl (q_fld tFl125_2_LdJ) ?_ <;> (refine yDT 13 133 rfl (q_ld tNa66_LdJ) fun v133 hv133 => ?_; cases hv133) <;> refine xDT 14 134 rfl q_move ?_ <;> refine xDT 15 135 rfl (q_idxN tSl66_LdJ) ?_ <;> (refine yDT 16 136 rfl (q_ld tNa4_LdJ) fun v136 hv136 => ?_; cases hv136) <;> refine xDT 17 137 rfl q_move ?_ <;> refine xDT 18 138 rfl q_nilp ?_ <;> refine xDT 19 139 rfl (q_fld tFl125_2_LdJ) ?_ <;> (refine yDT 20 140 rfl (q_ld tNa66_LdJ) fun v140 hv140 => ?_; cases hv140) <;> refine xDT 21 141 rfl q_move ?_ <;> refine xDT 22 142 rfl (q_idxN tSl66_LdJ) ?_ <;> (refine yDT 23 143 rfl (q_ld tNa4_LdJ) fun v143 hv143 => ?_; cases hv143) <;> (refine aD_one 4 (by kernel_rfl) ?_) <;> (refine aW_run rfl fun w9 M9 N9 DQ back => ?_) <;> refine s_lit1 (kk := 1) 124 tEl28_LdS fun h124 ho124 => ?_ <;> refine aL_end (back _ (nrm ?_)) <;> (refine aD_one 5 (by kernel_rfl) ?_) <;> (refine aW_run rfl fun w9 M9 N9 DQ back => ?_) <;> (refine s_app 301 124 125 tEl28_LdS fun h125 ho125 => ?_; have q125 : En.one (PV.val h125) = true := ho125) <;> refine aL_end (back _ (nrm ?_)) <;> refine xDT 27 147 rfl (q_fldo 10 tFl95_0_LfP) ?_ <;> refine xDT 28 148 rfl (q_fldo 10 tFl93_1_LfB) ?_ <;> (refine aD_one 24 (by kernel_rfl) ?_) <;> (refine aW_call (d := 144) rfl (cA Tryz.call120 (aDecides_e op (finB A (x.1.1 : Nat)) (finB B (x.1.2 : Nat)))) fun v144 hv144 => ?_; cases hv144) <;> (refine aD_one 25 (by kernel_rfl) ?_) <;> (refine aW_run rfl fun w9 M9 N9 DQ back => ?_) <;> refine s_lit1 (kk := 1) 145 tEl66_LdR fun h145 ho145 => ?_ <;> refine aL_end (back _ (nrm ?_)) <;> (refine aD_one 26 (by kernel_rfl) ?_) <;> (refine aW_run rfl fun w9 M9 N9 DQ back => ?_) <;> (refine s_app 302 145 146 tEl66_LdR fun h146 ho146 => ?_; have q146 : En.one (PV.val h146) = true := ho146) <;> refine aL_end (back _ (nrm ?_)) <;> (refine aD_one 29 (by kernel_rfl) ?_) <;> (refine aW_thenZ rfl rfl fun DQ back => ?_) <;> refine s_st 10 tNa28_LfB tSz28_LfB ?_ <;> refine aL_end (back _ ?_) <;> (refine aDZ_one 30 (by kernel_rfl) rfl rfl fun DQ back => ?_) <;> refine xL 149 (q_fldo 10 tFl95_0_LfP) ?_ <;> refine aL_end (back _ ?_) <;> (refine aDZ_one 31 (by kernel_rfl) rfl rfl fun DQ back => ?_) <;> refine xL 150 (q_fldo 10 tFl93_2_LfB) ?_ <;> refine aL_end (back _ ?_) <;> (refine aDZ_one 32 (by kernel_rfl) rfl rfl fun DQ back => ?_) <;> refine s_st 10 tNa66_LdJ tSz66_LfB ?_ <;> refine aL_end (back _ ?_) <;> refine aDZ_end (by kernel_rfl) (nav ?_) <;> try dsimp only)
       refine aC_ent (relabel (l := 125) 301 rfl rfl) fun _ => ?_
       refine aC_ent (relabel (l := 146) 302 rfl rfl) fun _ => ?_
       refine aC_ent (recast (l := 301) rfl (snoc_nats _ rows r)) fun _ => ?_
       refine aC_ent (recast (l := 302) rfl (snoc_bools _ ((o.take i).map (prodF A B op)) (prodF A B op x))) fun _ => ?_
       rw [show ((o.take i).map (prodF A B op)) ++ [prodF A B op x] = (o'.take (i + 1)).map (prodF A B op) by rw [htk, List.map_append]; rfl]
       (refine aC_region ?_ <;> refine xL 40 q_move ?_ <;> refine xL 41 q_add ?_ <;> refine xL 13 q_assign ?_ <;> refine aL_end (nav ?_) <;> try dsimp only)
       refine aN_again (
        ⟨(i + 1, h125, h146, r3', r4', r5', o', rows ++ [r]), hU2, (by dsimp only; omega), ho125, ho146, hr3', hr4', hr5'⟩
        ) (by dsimp only; omega) ⟨rfl, rfl, rfl, rfl, rfl, rfl, rfl, rfl, rfl, rfl, rfl, trivial⟩ ⟨rfl, rfl, rfl, rfl, rfl, rfl, rfl, rfl, rfl, rfl, trivial⟩))
 · first
   | exact Bool.noConfusion hb39
   | (
    have hio : i = o.length := by omega
    subst hio
    refine nav ?_
    refine aC_ent (freezeCell (l := 10) (l' := 301) (j := 1) rfl rfl rfl rfl) fun _ => ?_
    refine aC_ent (freezeCell (l := 10) (l' := 302) (j := 2) rfl rfl rfl rfl) fun _ => ?_
    refine aC_ent (freezeCell (l := 10) (l' := 303) (j := 3) rfl rfl rfl rfl) fun _ => ?_
    refine aC_ent (freezeCell (l := 10) (l' := 304) (j := 4) rfl rfl rfl rfl) fun _ => ?_
    rw [share_natss _ _ _ rfl, share_boolss _ _ _ rfl, share_ints _ _ _ rfl, share_ints _ _ _ rfl]
    (refine aC_region ?_ <;> (refine yL 151 (q_ldao 10 tAgg95_LfP) fun v151 hv151 => ?_; cases hv151) <;> refine s_sta 6 tAgg95_LfP ?_ <;> refine xL 7 q_assign ?_ <;> refine aL_end (nav ?_) <;> try dsimp only)
    refine ret_cs (k := 5) 6 (by kernel_rfl) (Tryz.results104) rfl rfl rfl (Nat.le_of_ble_eq_true rfl) (by decide) rfl (.inl ⟨(o, rows), Srch.all_some hU (Nat.le_refl _) (show o.length ≤ (prodW A B).cap from hcap), ?_⟩)
    unfold pPairs
    dsimp only
    rw [List.take_length, hsN]; rfl)
end Go.Proofs.YtgigclnaicbiaaaGreatDoor
namespace Go.En
open Go.RowKit Go.Cb Go.Proofs Go.Sort
set_option linter.all false
def RevI (P : Program) (fs : Nat) : Prop := ∀ (blk cap : Nat) (zs : List Int) (w : World), Go.Sort.Holds (Value.int .i64) w blk 0 zs.toArray → blk < w.heap.size → zs.length < 4611686018427387904 →
 Calls P fs #[.slice (some ⟨blk, 0, none⟩) zs.length cap] w fun e w' => e = .returned (.tuple #[]) ∧ ∃ n os, w' = grow (putRow (Value.int .i64) (Go.Sort.ahead w n) blk 0 zs.reverse.toArray) os
section
variable {P : Program} {c : Ctx} {ops : Array Oper} {Q : Exit → Act → World → Prop} {rest : List Oper} {sL hP : List (Nat × Ent)} {o : Oper}
theorem s_revI {fs e d : Nat} {zs : List Int} {h : Value} {q : PV} {x : Operand} {ats : Array TypeId} (l : Nat) (hS : RevI P fs) (hc : ∀ args w, (callFunc fs args).run P w = .ok (.enter fs args) w)
 (kk : aL P c ops Q rest ⟨put d (.tuple #[], .val (.tuple #[])) sL, put l (h, .own e 1 zs.length (zs.reverse.map pInt)) hP⟩)
 (hn : 0 < zs.length) (hn2 : zs.length < 4611686018427387904 := by omega) (hw : wants ops sL o = some true := by exact rfl) (hd : o.dst = some d := by exact rfl) (hdn : d < c.nt := by exact Nat.le_of_ble_eq_true rfl) (ho : o.op = .call { callee := .value (.func fs), args := #[x], argTypes := ats } := by exact rfl) (hx : ev sL x = some (h, q) := by exact rfl) (hl : lk hP l = some (h, .own e 1 zs.length (zs.map pInt)) := by exact rfl) : aL P c ops Q (o :: rest) (⟨sL, hP⟩ : St) :=
 aL_run hw fun a w F H => by
  have hxv := (H.rd.ev hx).1
  have hTr := H.tr l _ _ hl
  obtain ⟨xs, Fs, hrow, hlen, hT, hdj, hb, hF⟩ := hTr.row
  obtain ⟨blk, cap, hh, hc1, hc2, hc3⟩ := own_hdr hTr hn
  have hblkF : F l blk := (hF blk).2 (.inl (by rw [hh]; rfl))
  have hxs : ∀ (j : Nat) (v : Value), xs[j]? = some v → ∃ z, zs[j]? = some z ∧ v = .int .i64 z := fun j v hv => by
   obtain ⟨p, hp⟩ := get_of_len hv hlen.symm
   have h1 := hp
   rw [List.getElem?_map, Option.map_eq_some_iff] at h1
   obtain ⟨z, hz, rfl⟩ := h1
   exact ⟨z, hz, ((hT j v _ hv hp).sh rfl).vOf⟩
  have hHold : Go.Sort.Holds (Value.int .i64) w blk 0 zs.toArray := fun j hj => by
   simp only [List.size_toArray] at hj
   have hrow' := hrow
   rw [hh] at hrow'
   obtain ⟨v, hv⟩ := get_of_lt (show j < xs.length by rw [← hlen, List.length_map]; exact hj)
   obtain ⟨z, hz, rfl⟩ := hxs j v hv
   refine ⟨?_, by rw [Nat.zero_add]; exact hrow'.frozenAt j⟩
   rw [Nat.zero_add, row_cell hrow' hv]
   have : zs.toArray[j]! = z := by
    have hz' := (List.getElem?_eq_some_iff.1 hz).2
    simp [hj, hz']
   rw [this]
  have hcall := hS blk cap zs w hHold hc3 hn2
  unfold Oper.wp
  have hrun : (execOp a.eval o).run P w = .ok (.enter fs #[h]) w := by
   have hev : a.eval (.func fs) = .func (.func fs) #[] #[] := rfl
   simp [execOp, ho, resolve, Deferred.ofValue, hev, invoke, hxv, hc]
  rw [hrun, Oper.upon_enter, hh]
  refine hcall.mono fun e' w' ⟨he', m, os, hw'⟩ => ?_
  subst he'
  have hsl : zs.reverse.length = zs.length := List.length_reverse
  generalize hsd : zs.reverse = sd at hsl hw' kk
  have hch0 : Chg (fun b => b = blk) w w' := by
   rw [hw']
   refine ⟨rfl, rfl, rfl, ?_, fun i hi hne => ?_⟩
   · simp [grow, putRow, mapBlock, Go.Sort.ahead]
   · have : (grow (putRow (Value.int .i64) (Go.Sort.ahead w m) blk 0 sd.toArray) os).heap = (w.heap.modify blk (onCells (putCells (Value.int .i64) 0 sd.toArray))) ++ os := rfl
     rw [this, Array.getElem?_append_left (by simpa using hi), Array.getElem?_modify, if_neg (fun e => hne e.symm)]
  rw [hd]
  refine kk _ _ ⟨fun l' => if l' = l then (fun b => b = blk) else F l', ?_⟩
  refine H.change (fun l' => l' = l) hdn (hch0.wid fun b hb' => .inl ⟨l, _, rfl, hl, by rw [hb']; exact hblkF⟩) (fun l' z hne hz => ?_) (fun l' z b hT' hz hb' => ?_) (fun hmm l' u p hT' hz => ?_) (fun l1 l2 _ _ _ h1 h2 hne => absurd (h1.trans h2.symm) hne) (fun _ => .val _) (fun _ => by rw [hw']; exact Nat.le_add_right _ _)
  · rcases lk_put hz with ⟨e1, _⟩ | ⟨_, e1⟩
    · exact absurd e1.symm hne
    · exact ⟨e1, by simp [hne]⟩
  · subst hT'
    simp only [if_true] at hb'
    exact .inl ⟨l', _, rfl, hl, by rw [hb']; exact hblkF⟩
  · subst hT'
    rw [lk_put_self] at hz
    cases hz
    simp only [if_true]
    rcases hrow.2 with ⟨e1, _⟩ | ⟨g', cap', cur, e1, _, e3, e4, e5, e6, e7⟩
    · rw [hh] at e1; cases e1
    · rw [hh] at e1
      cases e1
      have hlt := blk_lt e3
      refine .own (sd.map (Value.int .i64)) (fun _ _ => False) ⟨by rw [List.length_map, hsl, Nat.mul_one], .inr ⟨blk, cap, putCells (Value.int .i64) 0 sd.toArray cur, hh, Nat.zero_le _, ?_, e4, e5, by simp [putCells]; omega, ?_⟩⟩ (by simp) (fun t v p hv hp => ?_) (fun _ _ _ _ _ _ h => h.elim) (fun _ _ _ h => h.elim) (fun b => by rw [hh]; simp [Value.ownBlock, eq_comm])
      · rw [hw']
        have : (grow (putRow (Value.int .i64) (Go.Sort.ahead w m) blk 0 sd.toArray) os).heap = (w.heap.modify blk (onCells (putCells (Value.int .i64) 0 sd.toArray))) ++ os := rfl
        rw [this, Array.getElem?_append_left (by simpa using hlt), Array.getElem?_modify, if_pos rfl, e3]
        rfl
      · have := put_takeI (Value.int .i64) sd.toArray cur (by simp only [List.size_toArray]; rw [hsl, e6]; omega)
        simp only [List.size_toArray] at this
        rw [Nat.mul_one, ← hsl]; exact this
      · rw [List.getElem?_map, Option.map_eq_some_iff] at hv hp
        obtain ⟨z, hz, rfl⟩ := hv
        obtain ⟨z', hz', rfl⟩ := hp
        rw [hz] at hz'; cases hz'
        exact .shr (.val _) (fun _ h => h)
end
section
variable {P : Program} {sL hP : List (Nat × Ent)} {o : Oper}
theorem q_build0 {t : Nat} {z : Value} {zs : List Value} {pl : List (Nat × Nat)} (hT : stInfo P t = some (z, pl)) (hzs : z.cells = zs.toArray) (ho : o.op = .build t #[] := by exact rfl) : YE P (⟨sL, hP⟩ : St) o (· = .agg zs.toArray) (.agg (zs.map .val)) :=
 .exact fun M F a w H => by
  refine ⟨.agg _ _ (by simp) fun i v q hv hq => ?_, ?_⟩
  · rw [List.getElem?_map, hv] at hq
    cases hq
    exact .val _
  have hb : P.built t [] = some zs.toArray := by
   unfold stInfo at hT
   split at hT
   · rename_i i fs hi hf
     split at hT
     · rename_i z' pl hz hpl
       cases hT
       unfold Program.built
       simp only [hi, hf, hz, hpl, hzs]
       rfl
     · cases hT
   · cases hT
  have := run_build (P := P) w t #[] _ hb
  simp [execOp, ho, this]
end
end Go.En
namespace Go.Proofs.YtgigclnaicbiaaaGreatDoor
open Go.RowKit Go.Cb Go.En
set_option linter.all false
set_option maxRecDepth 100000
theorem sIndexBool_e (l : List Bool) : AF Tryz.prog 123 [.sl l.length (l.map pBool), pBool true] (· = pInt (idx (fun x => x == true) l)) := by
 refine AF.of_body 19 Tryz.func123 rfl Tryz.ntmps123 (Nat.le_of_ble_eq_true rfl) ?_
 intro w0 M0 vs hl hv
 obtain ⟨v0, v1, rfl⟩ := len2 hl
 obtain rfl := hv 1 _ _ rfl rfl
 clear hl hv
 refine aC_slen 0 rfl fun hlen => ?_
 refine nav ?_
 (refine aC_region ?_ <;> refine xL 4 q_assign ?_ <;> refine aL_end (nav ?_) <;> try dsimp only)
 (refine aC_region ?_ <;> refine xL 6 q_move ?_ <;> refine xL 7 (q_len tSl66_LdJ) ?_ <;> refine xL 8 q_move ?_ <;> refine aL_end (nav ?_) <;> try dsimp only)
 refine aC_loop (ι := { k : Nat // k ≤ l.length ∧ ∀ i y, i < k → l[i]? = some y → (y == true) = false }) (fun k => ⟨[(0, _, _), (1, _, _), (7, _, _), (8, .int .i64 k.1, pInt k.1)], []⟩) (fun k => l.length - k.1) ⟨0, by omega, by omega⟩ (fun a w H => H.weaken ⟨rfl, rfl, rfl, rfl, trivial⟩ trivial) ?_
 rintro ⟨k, hk, hp⟩
 dsimp only
 refine nav ?_
 (refine aC_region ?_ <;> refine xL 9 q_lss ?_ <;> refine aL_end (nav ?_) <;> try dsimp only)
 (first | refine cCd ?_ ?_ | refine cC ?_ ?_) <;> intro hb9
 · first
   | exact Bool.noConfusion hb9
   | (
    obtain ⟨x, hx⟩ := get_some (show k < l.length by omega)
    have e1 := map_at (f := pBool) hx
    refine nav ?_
    (refine aC_region ?_ <;> refine xL 10 q_move ?_ <;> refine xL 5 q_assign ?_ <;> refine aL_end (nav ?_) <;> try dsimp only)
    (refine aC_region ?_ <;> refine xL 11 q_move ?_ <;> refine xL 12 q_move ?_ <;> refine xL 13 q_move ?_ <;> refine xL 14 (q_idxN tSl66_LdJ) ?_ <;> (refine yL 15 (q_ld tNa4_LdJ) fun v15 hv15 => ?_; cases hv15) <;> refine xL 16 (q_beql Tryz.underlying4) ?_ <;> refine aL_end (nav ?_) <;> try dsimp only)
    (first | refine cCd ?_ ?_ | refine cC ?_ ?_) <;> intro hb16
    · first
      | exact Bool.noConfusion hb16
      | (
       have hx1 : (x == true) = true := by cases x <;> simp_all
       refine nav ?_
       (refine aC_region ?_ <;> refine xL 17 q_move ?_ <;> refine xL 4 q_assign ?_ <;> refine aL_end (nav ?_) <;> try dsimp only)
       refine ret_shr (Tryz.results123) rfl ?_
       rw [idx_here hp hx hx1])
    · first
      | exact Bool.noConfusion hb16
      | (
       have hx1 : (x == true) = false := by cases x <;> simp_all
       refine nav ?_
       (refine aC_region ?_ <;> refine xL 18 q_add ?_ <;> refine xL 8 q_move ?_ <;> refine aL_end (nav ?_) <;> try dsimp only)
       refine aN_again (
        ⟨k + 1, by omega, fun i y hi hy => by
         by_cases e : i = k
         · subst e; rw [hx] at hy; cases hy; exact hx1
         · exact hp i y (by omega) hy⟩
        ) (by dsimp only; omega) ⟨rfl, rfl, rfl, rfl, trivial⟩ trivial))
 · first
   | exact Bool.noConfusion hb9
   | (
    refine nav ?_
    (refine aC_region ?_ <;> refine xL 4 q_assign ?_ <;> refine aL_end (nav ?_) <;> try dsimp only)
    refine ret_shr (Tryz.results123) rfl ?_
    rw [idx_none fun i y hi hy => hp i y (by omega) hy])
theorem revI : RevI Tryz.prog 52 := fun blk cap zs w hH _ hsz => (Tryz.slices_Reverse_int blk 0 cap zs w hH (by omega)).mono fun e w' ⟨h1, n, h2⟩ => ⟨h1, n, #[], by rw [h2]; simp [Go.Sort.grow]; rfl⟩
theorem revI0 : SortI0 Tryz.prog 52 := fun p cap w => Tryz.slices_Reverse_int_empty p cap w
theorem cmpR_no {A B : Aut} {op : Int} {q : List PrS × List (List Nat)} (h : idx (fun x => x == true) (q.1.map (prodF A B op)) = -1) : cmpR A B op q = (true, []) := by
 rw [idxB] at h
 unfold cmpR
 cases h1 : (q.1.map (prodF A B op)).idxOf? true with
 | none => rfl
 | some i =>
   rw [h1] at h
   have h' : ((i : Nat) : Int) = -1 := h
   omega
theorem cmpR_yes {A B : Aut} {op : Int} {q : List PrS × List (List Nat)} {i : Nat} (h : idx (fun x => x == true) (q.1.map (prodF A B op)) = (i : Int)) : cmpR A B op q = (false, wayP (q.1.map (·.2)) i) := by
 rw [idxB] at h
 unfold cmpR
 cases h1 : (q.1.map (prodF A B op)).idxOf? true with
 | none =>
   rw [h1] at h
   have h' : (-1 : Int) = ((i : Nat) : Int) := h
   omega
 | some j =>
   rw [h1] at h
   dsimp only at h ⊢
   rw [show j = i by omega]; rfl
theorem idx_cases {A B : Aut} {op : Int} (o : List PrS) {v : Int} (h : idx (fun x => x == true) (o.map (prodF A B op)) = v) : v = -1 ∨ ∃ i : Nat, v = (i : Int) ∧ i < o.length := by
 rcases idx_nat (p := fun x => x == true) (l := o.map (prodF A B op)) with ⟨h1, _⟩ | ⟨i, x, h1, h2, _⟩
 · exact .inl (by rw [← h, h1])
 · exact .inr ⟨i, by rw [← h, h1], by have := lt_of_get h2; rwa [List.length_map] at this⟩
theorem aFirst_e (A B : Aut) (op : Int) (o : List PrS) (rows : List (List Nat)) (hu : (prodW A B).upto ((0, 0), (-1, -1)) 2000 = some (o, rows)) (h0 : o[0]? = some ((0, 0), (-1, -1))) (hcap : o.length ≤ 2000) : AF Tryz.prog 115 [pPairs A B op (o, rows)] (· = .tup [pInts (cmpR A B op (o, rows)).2, pBool (!(cmpR A B op (o, rows)).1)]) := by
 obtain ⟨v, hv⟩ : ∃ v, idx (fun x => x == true) (o.map (prodF A B op)) = v := ⟨_, rfl⟩
 have hix := sIndexBool_e (o.map (prodF A B op))
 rw [hv] at hix
 have hvc := idx_cases o hv
 have hbk := prod_back hu h0
 refine AF.of_body 34 Tryz.func115 rfl Tryz.ntmps115 (Nat.le_of_ble_eq_true rfl) ?_
 intro w0 M0 vs hl hv
 obtain ⟨v0, rfl⟩ := len1 hl
 clear hl hv
 refine nav ?_
 (refine aC_region ?_ <;> refine s_boxa 1 5 fun h1 => ?_ <;> refine xL 2 q_assign ?_ <;> refine xL 3 q_assign ?_ <;> refine aL_end (nav ?_) <;> try dsimp only)
 (refine aC_region ?_ <;> refine xL 6 (q_fldo 1 tFl95_0_LfP) ?_ <;> refine xL 7 (q_fldo 1 tFl93_2_LfB) ?_ <;> (refine yL 8 (q_ldo 1 tNa66_LdJ) fun v8 hv8 => ?_; cases hv8) <;> (refine cS 9 (cA Tryz.call123 (hix)) fun v9 hv9 => ?_; cases hv9) <;> refine xL 4 q_assign ?_ <;> refine aL_end (nav ?_) <;> try dsimp only)
 (refine aC_region ?_ <;> refine xL 10 q_move ?_ <;> refine xL 11 q_lss ?_ <;> refine aL_end (nav ?_) <;> try dsimp only)
 (first | refine cCd ?_ ?_ | refine cC ?_ ?_) <;> intro hb11
 · first
   | exact Bool.noConfusion hb11
   | (
    have hv1 : v = -1 := by omega
    subst hv1
    have hcr := cmpR_no (q := (o, rows)) hv
    refine nav ?_
    (refine aC_region ?_ <;> refine xL 2 q_assign ?_ <;> refine xL 3 q_assign ?_ <;> refine aL_end (nav ?_) <;> try dsimp only)
    refine aR_ent (nilSlD (t := 2) rfl) fun _ => ?_
    refine ret_ss (Tryz.results115) rfl rfl ?_
    rw [hcr]; rfl)
 · first
   | exact Bool.noConfusion hb11
   | (
    obtain ⟨i0, rfl, hi0⟩ : ∃ i : Nat, v = (i : Int) ∧ i < o.length := by
     rcases hvc with h | h
     · omega
     · exact h
    have hcr := cmpR_yes (q := (o, rows)) hv
    dsimp only at hcr
    refine nav ?_
    (refine aC_region ?_ <;> refine xL 5 q_assign ?_ <;> refine aL_end (nav ?_) <;> try dsimp only)
    refine aC_ent (nilOwn 200 3 1 rfl) fun _ => ?_
    refine aC_loop (ι := { k : Nat × List Int × Value // wayP (o.map (·.2)) i0 = wayP (o.map (·.2)) k.1 ++ k.2.1.reverse ∧ k.1 < o.length ∧ k.2.1.length + k.1 ≤ i0 ∧ k.2.2.oneCell' = true }) (fun k => ⟨[(1, _, _), (2, _, _), (3, _, _), (4, .int .i64 k.1.1, pInt k.1.1), (5, k.1.2.2, .val k.1.2.2)], [(1, _, _), (200, k.1.2.2, .own 3 1 k.1.2.1.length (k.1.2.1.map pInt))]⟩) (fun k => k.1.1) ⟨(i0, [], .slice none 0 0), by simp, hi0, by simp, rfl⟩ (fun a w H => H.weaken ⟨rfl, rfl, rfl, rfl, rfl, trivial⟩ ⟨rfl, rfl, trivial⟩) ?_
    rintro ⟨⟨cur, out, r⟩, hw, hc, hl, hr⟩
    dsimp only
    dsimp only at hw hc hl hr
    obtain ⟨⟨pq, f, s⟩, hx⟩ := get_some hc
    have hpf : (pFrom o).length = o.length := by unfold pFrom; rw [List.length_map]
    have hps : (pSym o).length = o.length := by unfold pSym; rw [List.length_map]
    have e1 : ((pFrom o).map pInt)[cur * 1]? = some (pInt f) := map_at (by unfold pFrom; rw [List.getElem?_map, hx]; rfl)
    have e2 : ((pSym o).map pInt)[cur * 1]? = some (pInt s) := map_at (by unfold pSym; rw [List.getElem?_map, hx]; rfl)
    have e3 : (o.map (·.2))[cur]? = some (f, s) := by rw [List.getElem?_map, hx]; rfl
    have hfc := hbk cur (f, s) e3
    refine nav ?_
    (refine aC_region ?_ <;> refine xL 12 (q_fldo 1 tFl95_1_LfP) ?_ <;> (refine yL 13 (q_ldo 1 tNa22_LdI) fun v13 hv13 => ?_; cases hv13) <;> refine xL 14 q_move ?_ <;> refine xL 15 (q_idxN tSl22_LbB) ?_ <;> (refine yL 16 (q_ld tNa3_LbB) fun v16 hv16 => ?_; cases hv16) <;> refine xL 17 q_geq ?_ <;> refine aL_end (nav ?_) <;> try dsimp only)
    (first | refine cCd ?_ ?_ | refine cC ?_ ?_) <;> intro hb17
    · first
      | exact Bool.noConfusion hb17
      | (
       obtain ⟨j, rfl⟩ : ∃ j : Nat, f = (j : Int) := ⟨f.toNat, by omega⟩
       dsimp only at hfc
       have hwn := wayP_on hbk e3 (by dsimp only; omega)
       dsimp only at hwn
       rw [Int.toNat_natCast] at hwn
       refine nav ?_
       (refine aC_region ?_ <;> refine xL 23 q_move ?_ <;> refine xL 24 (q_fldo 1 tFl95_2_LfP) ?_ <;> (refine yL 25 (q_ldo 1 tNa22_LdI) fun v25 hv25 => ?_; cases hv25) <;> refine xL 26 q_move ?_ <;> refine xL 27 (q_idxN tSl22_LbB) ?_ <;> (refine yL 28 (q_ld tNa3_LbB) fun v28 hv28 => ?_; cases hv28) <;> refine s_lit1 (kk := 1) 29 tEl22_LdI fun h29 ho29 => ?_ <;> refine s_app 200 29 30 tEl22_LdI fun h30 ho30 => ?_ <;> refine xL 5 q_assign ?_ <;> refine aL_end (nav ?_) <;> try dsimp only)
       refine aC_ent (relabel (l := 30) 200 rfl rfl) fun _ => ?_
       refine aC_ent (recast (l := 200) rfl (own_ints _ out s)) fun _ => ?_
       (refine aC_region ?_ <;> refine xL 18 (q_fldo 1 tFl95_1_LfP) ?_ <;> (refine yL 19 (q_ldo 1 tNa22_LdI) fun v19 hv19 => ?_; cases hv19) <;> refine xL 20 q_move ?_ <;> refine xL 21 (q_idxN tSl22_LbB) ?_ <;> (refine yL 22 (q_ld tNa3_LbB) fun v22 hv22 => ?_; cases hv22) <;> refine xL 4 q_assign ?_ <;> refine aL_end (nav ?_) <;> try dsimp only)
       refine aN_again (
        ⟨(j, out ++ [s], h30), by dsimp only; rw [hw, hwn, List.reverse_append]; simp, by dsimp only; omega, by dsimp only; rw [List.length_append, List.length_singleton]; omega, ho30⟩
        ) (by dsimp only; omega) ⟨rfl, rfl, rfl, rfl, rfl, trivial⟩ ⟨rfl, rfl, trivial⟩)
    · first
      | exact Bool.noConfusion hb17
      | (
       have hwn := wayP_end e3 (by dsimp only; omega)
       rw [hwn, List.nil_append] at hw
       refine nav ?_
       (refine aC_region ?_ <;> refine xL 31 q_move ?_ <;> (rcases Nat.eq_zero_or_pos out.length with h0' | h0' <;> first | (refine aL_ent (recast (l := 200) (p' := .own 3 1 0 []) rfl (by rw [List.eq_nil_of_length_eq_zero h0']; rfl)) fun _ => ?_; refine s_sortI0 200 revI0 (Tryz.call52) ?_; refine aL_ent (recast (l := 200) (p' := .own 3 1 out.length (out.reverse.map pInt)) rfl (by rw [List.eq_nil_of_length_eq_zero h0']; rfl)) fun _ => ?_) | (refine s_revI 200 revI (Tryz.call52) ?_ h0')) <;> refine aL_end (nav ?_) <;> try dsimp only) <;> (
        refine aC_ent (En.freeze (l := 200) (t := 5) rfl rfl) fun _ => ?_
        rw [show share (PV.own 3 1 out.length (out.reverse.map pInt)) = pInts out.reverse by rw [← List.length_reverse]; exact share_ints _ _ _ rfl]
        (refine aC_region ?_ <;> refine xL 33 q_move ?_ <;> refine xL 2 q_assign ?_ <;> refine xL 3 q_assign ?_ <;> refine aL_end (nav ?_) <;> try dsimp only)
        refine ret_ss (Tryz.results115) rfl rfl ?_
        rw [hcr, hw]; rfl)))
theorem fit_no1 {a b : Aut} (h : autOk a = false) : fitX a b = 1 := by unfold fitX; rw [if_pos (.inl h)]
theorem fit_no2 {a b : Aut} (h : autOk b = false) : fitX a b = 1 := by unfold fitX; rw [if_pos (.inr h)]
theorem fit_ne {a b : Aut} (h1 : autOk a = true) (h2 : autOk b = true) (h : ¬ a.syms = b.syms) : fitX a b = 29 := by unfold fitX; rw [if_neg (by rw [h1, h2]; simp), if_pos h]
theorem fit_ok {a b : Aut} (h1 : autOk a = true) (h2 : autOk b = true) (h : a.syms = b.syms) : fitX a b = 0 := by unfold fitX; rw [if_neg (by rw [h1, h2]; simp), if_neg (fun e => e h)]
theorem fit_zero {a b : Aut} (h : fitX a b = 0) : autOk a = true ∧ autOk b = true ∧ a.syms = b.syms := by
 unfold fitX at h
 split at h
 · omega
 · rename_i h1
   split at h
   · omega
   · rename_i h2
     refine ⟨?_, ?_, ?_⟩
     · cases e : autOk a with
       | true => rfl
       | false => exact absurd (.inl e) h1
     · cases e : autOk b with
       | true => rfl
       | false => exact absurd (.inr e) h1
     · exact Decidable.not_not.1 h2
def pPZ : PV := .agg [pInt 0, .val (.slice none 0 0), .val (.slice none 0 0), .val (.slice none 0 0), .val (.slice none 0 0)]
def resB (a b : Aut) (op : Int) : PV := match bothX a b with
 | .ok (A, B, q) => .tup [pPairs A B op q, pInt 0]
 | .error e => .tup [pPZ, pInt e]
theorem aFit_ff (a b : Aut) (ha : autOk a = false) (hb : autOk b = false) (hs : True) : AF Tryz.prog 70 [pAut a, pAut b] (· = pInt 1) := by
 have hva := aValid_e a
 have hvb := aValid_e b
 rw [ha] at hva
 rw [hb] at hvb
 refine AF.of_body 20 Tryz.func70 rfl Tryz.ntmps70 (Nat.le_of_ble_eq_true rfl) ?_
 intro w0 M0 vs hl hv
 obtain ⟨v0, v1, rfl⟩ := len2 hl
 clear hl hv
 refine nav ?_
 (refine aC_region ?_ <;> refine s_boxa 2 5 fun h2 => ?_ <;> refine s_boxa 3 5 fun h3 => ?_ <;> refine xL 4 q_assign ?_ <;> refine aL_end (nav ?_) <;> try dsimp only)
 (refine aC_region ?_ <;> (refine yL 6 (q_ldao 2 tAgg25_LdS) fun v6 hv6 => ?_; cases hv6) <;> (refine cS 7 (cA Tryz.call24 (hva)) fun v7 hv7 => ?_; cases hv7) <;> refine xL 8 q_not ?_ <;> refine xL 9 q_move ?_ <;> refine kL 10 ?_ <;> refine kL 11 ?_ <;> refine kL 12 ?_ <;> refine xL 13 q_pick ?_ <;> refine xL 5 q_assign ?_ <;> refine aL_end (nav ?_) <;> try dsimp only) <;> (
  (first | refine cCd ?_ ?_ | refine cC ?_ ?_) <;> intro hb5
  · first
    | exact Bool.noConfusion hb5
    | (
     refine nav ?_
     (refine aC_region ?_ <;> refine xL 4 q_assign ?_ <;> refine aL_end (nav ?_) <;> try dsimp only)
     exact ret_shr (Tryz.results70) rfl rfl)
  · first
    | exact Bool.noConfusion hb5
    | skip)
theorem aFit_ft (a b : Aut) (ha : autOk a = false) (hb : autOk b = true) (hs : True) : AF Tryz.prog 70 [pAut a, pAut b] (· = pInt 1) := by
 have hva := aValid_e a
 have hvb := aValid_e b
 rw [ha] at hva
 rw [hb] at hvb
 refine AF.of_body 20 Tryz.func70 rfl Tryz.ntmps70 (Nat.le_of_ble_eq_true rfl) ?_
 intro w0 M0 vs hl hv
 obtain ⟨v0, v1, rfl⟩ := len2 hl
 clear hl hv
 refine nav ?_
 (refine aC_region ?_ <;> refine s_boxa 2 5 fun h2 => ?_ <;> refine s_boxa 3 5 fun h3 => ?_ <;> refine xL 4 q_assign ?_ <;> refine aL_end (nav ?_) <;> try dsimp only)
 (refine aC_region ?_ <;> (refine yL 6 (q_ldao 2 tAgg25_LdS) fun v6 hv6 => ?_; cases hv6) <;> (refine cS 7 (cA Tryz.call24 (hva)) fun v7 hv7 => ?_; cases hv7) <;> refine xL 8 q_not ?_ <;> refine xL 9 q_move ?_ <;> refine kL 10 ?_ <;> refine kL 11 ?_ <;> refine kL 12 ?_ <;> refine xL 13 q_pick ?_ <;> refine xL 5 q_assign ?_ <;> refine aL_end (nav ?_) <;> try dsimp only) <;> (
  (first | refine cCd ?_ ?_ | refine cC ?_ ?_) <;> intro hb5
  · first
    | exact Bool.noConfusion hb5
    | (
     refine nav ?_
     (refine aC_region ?_ <;> refine xL 4 q_assign ?_ <;> refine aL_end (nav ?_) <;> try dsimp only)
     exact ret_shr (Tryz.results70) rfl rfl)
  · first
    | exact Bool.noConfusion hb5
    | skip)
theorem aFit_tf (a b : Aut) (ha : autOk a = true) (hb : autOk b = false) (hs : True) : AF Tryz.prog 70 [pAut a, pAut b] (· = pInt 1) := by
 have hva := aValid_e a
 have hvb := aValid_e b
 rw [ha] at hva
 rw [hb] at hvb
 refine AF.of_body 20 Tryz.func70 rfl Tryz.ntmps70 (Nat.le_of_ble_eq_true rfl) ?_
 intro w0 M0 vs hl hv
 obtain ⟨v0, v1, rfl⟩ := len2 hl
 clear hl hv
 refine nav ?_
 (refine aC_region ?_ <;> refine s_boxa 2 5 fun h2 => ?_ <;> refine s_boxa 3 5 fun h3 => ?_ <;> refine xL 4 q_assign ?_ <;> refine aL_end (nav ?_) <;> try dsimp only)
 (refine aC_region ?_ <;> (refine yL 6 (q_ldao 2 tAgg25_LdS) fun v6 hv6 => ?_; cases hv6) <;> (refine cS 7 (cA Tryz.call24 (hva)) fun v7 hv7 => ?_; cases hv7) <;> refine xL 8 q_not ?_ <;> refine xL 9 q_move ?_ <;> (refine yL 10 (q_ldao 3 tAgg25_LdS) fun v10 hv10 => ?_; cases hv10) <;> (refine cS 11 (cA Tryz.call24 (hvb)) fun v11 hv11 => ?_; cases hv11) <;> refine xL 12 q_not ?_ <;> refine xL 13 q_pick ?_ <;> refine xL 5 q_assign ?_ <;> refine aL_end (nav ?_) <;> try dsimp only) <;> (
  (first | refine cCd ?_ ?_ | refine cC ?_ ?_) <;> intro hb5
  · first
    | exact Bool.noConfusion hb5
    | (
     refine nav ?_
     (refine aC_region ?_ <;> refine xL 4 q_assign ?_ <;> refine aL_end (nav ?_) <;> try dsimp only)
     exact ret_shr (Tryz.results70) rfl rfl)
  · first
    | exact Bool.noConfusion hb5
    | skip)
theorem aFit_tn (a b : Aut) (ha : autOk a = true) (hb : autOk b = true) (hs : ¬ a.syms = b.syms) : AF Tryz.prog 70 [pAut a, pAut b] (· = pInt 29) := by
 have hva := aValid_e a
 have hvb := aValid_e b
 rw [ha] at hva
 rw [hb] at hvb
 refine AF.of_body 20 Tryz.func70 rfl Tryz.ntmps70 (Nat.le_of_ble_eq_true rfl) ?_
 intro w0 M0 vs hl hv
 obtain ⟨v0, v1, rfl⟩ := len2 hl
 clear hl hv
 refine nav ?_
 (refine aC_region ?_ <;> refine s_boxa 2 5 fun h2 => ?_ <;> refine s_boxa 3 5 fun h3 => ?_ <;> refine xL 4 q_assign ?_ <;> refine aL_end (nav ?_) <;> try dsimp only)
 (refine aC_region ?_ <;> (refine yL 6 (q_ldao 2 tAgg25_LdS) fun v6 hv6 => ?_; cases hv6) <;> (refine cS 7 (cA Tryz.call24 (hva)) fun v7 hv7 => ?_; cases hv7) <;> refine xL 8 q_not ?_ <;> refine xL 9 q_move ?_ <;> (refine yL 10 (q_ldao 3 tAgg25_LdS) fun v10 hv10 => ?_; cases hv10) <;> (refine cS 11 (cA Tryz.call24 (hvb)) fun v11 hv11 => ?_; cases hv11) <;> refine xL 12 q_not ?_ <;> refine xL 13 q_pick ?_ <;> refine xL 5 q_assign ?_ <;> refine aL_end (nav ?_) <;> try dsimp only) <;> (
  (first | refine cCd ?_ ?_ | refine cC ?_ ?_) <;> intro hb5
  · first
    | exact Bool.noConfusion hb5
    | (
     refine nav ?_
     (refine aC_region ?_ <;> refine xL 4 q_assign ?_ <;> refine aL_end (nav ?_) <;> try dsimp only)
     exact ret_shr (Tryz.results70) rfl rfl)
  · first
    | exact Bool.noConfusion hb5
    | (
     refine nav ?_
     (refine aC_region ?_ <;> refine xL 15 (q_fldo 2 tFl25_1_LdI) ?_ <;> (refine yL 16 (q_ldo 2 tNa3_LbB) fun v16 hv16 => ?_; cases hv16) <;> refine xL 17 (q_fldo 3 tFl25_1_LdI) ?_ <;> (refine yL 18 (q_ldo 3 tNa3_LbB) fun v18 hv18 => ?_; cases hv18) <;> refine xL 19 q_neq ?_ <;> refine xL 14 q_assign ?_ <;> refine aL_end (nav ?_) <;> try dsimp only)
     (first | refine cCd ?_ ?_ | refine cC ?_ ?_) <;> intro hb14
     · first
       | exact Bool.noConfusion hb14
       | (
        refine nav ?_
        (refine aC_region ?_ <;> refine xL 4 q_assign ?_ <;> refine aL_end (nav ?_) <;> try dsimp only)
        first | exact ret_shr (Tryz.results70) rfl rfl | exact absurd hs (by simpa using hb14))
     · first
       | exact Bool.noConfusion hb14
       | (
        refine nav ?_
        (refine aC_region ?_ <;> refine xL 4 q_assign ?_ <;> refine aL_end (nav ?_) <;> try dsimp only)
        first | exact ret_shr (Tryz.results70) rfl rfl | exact absurd (by simpa using hb14) hs)))
theorem aFit_tt (a b : Aut) (ha : autOk a = true) (hb : autOk b = true) (hs : a.syms = b.syms) : AF Tryz.prog 70 [pAut a, pAut b] (· = pInt 0) := by
 have hva := aValid_e a
 have hvb := aValid_e b
 rw [ha] at hva
 rw [hb] at hvb
 refine AF.of_body 20 Tryz.func70 rfl Tryz.ntmps70 (Nat.le_of_ble_eq_true rfl) ?_
 intro w0 M0 vs hl hv
 obtain ⟨v0, v1, rfl⟩ := len2 hl
 clear hl hv
 refine nav ?_
 (refine aC_region ?_ <;> refine s_boxa 2 5 fun h2 => ?_ <;> refine s_boxa 3 5 fun h3 => ?_ <;> refine xL 4 q_assign ?_ <;> refine aL_end (nav ?_) <;> try dsimp only)
 (refine aC_region ?_ <;> (refine yL 6 (q_ldao 2 tAgg25_LdS) fun v6 hv6 => ?_; cases hv6) <;> (refine cS 7 (cA Tryz.call24 (hva)) fun v7 hv7 => ?_; cases hv7) <;> refine xL 8 q_not ?_ <;> refine xL 9 q_move ?_ <;> (refine yL 10 (q_ldao 3 tAgg25_LdS) fun v10 hv10 => ?_; cases hv10) <;> (refine cS 11 (cA Tryz.call24 (hvb)) fun v11 hv11 => ?_; cases hv11) <;> refine xL 12 q_not ?_ <;> refine xL 13 q_pick ?_ <;> refine xL 5 q_assign ?_ <;> refine aL_end (nav ?_) <;> try dsimp only) <;> (
  (first | refine cCd ?_ ?_ | refine cC ?_ ?_) <;> intro hb5
  · first
    | exact Bool.noConfusion hb5
    | (
     refine nav ?_
     (refine aC_region ?_ <;> refine xL 4 q_assign ?_ <;> refine aL_end (nav ?_) <;> try dsimp only)
     exact ret_shr (Tryz.results70) rfl rfl)
  · first
    | exact Bool.noConfusion hb5
    | (
     refine nav ?_
     (refine aC_region ?_ <;> refine xL 15 (q_fldo 2 tFl25_1_LdI) ?_ <;> (refine yL 16 (q_ldo 2 tNa3_LbB) fun v16 hv16 => ?_; cases hv16) <;> refine xL 17 (q_fldo 3 tFl25_1_LdI) ?_ <;> (refine yL 18 (q_ldo 3 tNa3_LbB) fun v18 hv18 => ?_; cases hv18) <;> refine xL 19 q_neq ?_ <;> refine xL 14 q_assign ?_ <;> refine aL_end (nav ?_) <;> try dsimp only)
     (first | refine cCd ?_ ?_ | refine cC ?_ ?_) <;> intro hb14
     · first
       | exact Bool.noConfusion hb14
       | (
        refine nav ?_
        (refine aC_region ?_ <;> refine xL 4 q_assign ?_ <;> refine aL_end (nav ?_) <;> try dsimp only)
        first | exact ret_shr (Tryz.results70) rfl rfl | exact absurd hs (by simpa using hb14))
     · first
       | exact Bool.noConfusion hb14
       | (
        refine nav ?_
        (refine aC_region ?_ <;> refine xL 4 q_assign ?_ <;> refine aL_end (nav ?_) <;> try dsimp only)
        first | exact ret_shr (Tryz.results70) rfl rfl | exact absurd (by simpa using hb14) hs)))
theorem aFit_e (a b : Aut) : AF Tryz.prog 70 [pAut a, pAut b] (· = pInt (fitX a b)) := by
 cases ha : autOk a
 · rw [fit_no1 ha]
   cases hb : autOk b
   · exact aFit_ff a b ha hb trivial
   · exact aFit_ft a b ha hb trivial
 · cases hb : autOk b
   · rw [fit_no2 hb]; exact aFit_tf a b ha hb trivial
   · by_cases hs : a.syms = b.syms
     · rw [fit_ok ha hb hs]; exact aFit_tt a b ha hb hs
     · rw [fit_ne ha hb hs]; exact aFit_tn a b ha hb hs
theorem aBoth_oe (a b : Aut) (op : Int) {A : Aut} (ha : AF Tryz.prog 83 [pAut a] (· = .tup [pAut A, pInt 0])) (hb : AF Tryz.prog 83 [pAut b] (· = .tup [rawZ, pInt 13])) : AF Tryz.prog 71 [pAut a, pAut b, pInt op] (· = .tup [pPZ, pInt 13]) := by
 refine AF.of_body 42 Tryz.func71 rfl Tryz.ntmps71 (Nat.le_of_ble_eq_true rfl) ?_
 intro w0 M0 vs hl hv
 obtain ⟨v0, v1, v2, rfl⟩ := len3 hl
 obtain rfl := hv 2 _ _ rfl rfl
 clear hl hv
 refine nav ?_
 (refine aC_region ?_ <;> refine s_boxa 3 5 fun h3 => ?_ <;> refine s_boxa 4 5 fun h4 => ?_ <;> refine s_alloc [(.int .i64 0), (.slice none 0 0), (.slice none 0 0), (.slice none 0 0), (.slice none 0 0)] 5 6 tZr95_LfP fun h6 => ?_ <;> refine xL 7 q_assign ?_ <;> refine aL_end (nav ?_) <;> try dsimp only)
 (refine aC_region ?_ <;> (refine yL 15 (q_ldao 3 tAgg25_LdS) fun v15 hv15 => ?_; cases hv15) <;> (refine cP 16 (cA Tryz.call83 (ha)) fun va16 vb16 hva16 hvb16 => ?_; cases hvb16) <;> refine xL 14 q_move ?_ <;> refine xL 17 q_extract ?_ <;> refine xL 18 q_extract ?_ <;> refine s_alloc [(.int .i64 0), (.int .i64 0), (.slice none 0 0), (.slice none 0 0), (.slice none 0 0)] 5 8 tZr25_LfD fun h8 => ?_ <;> refine s_sta 8 tAgg25_LdS ?_ <;> refine xL 9 q_assign ?_ <;> refine aL_end (nav ?_) <;> try dsimp only)
 (refine aC_region ?_ <;> (refine yL 20 (q_ldao 4 tAgg25_LdS) fun v20 hv20 => ?_; cases hv20) <;> (refine cP 21 (cA Tryz.call83 (hb)) fun va21 vb21 hva21 hvb21 => ?_; cases hvb21) <;> refine xL 19 q_move ?_ <;> refine xL 22 q_extract ?_ <;> refine xL 23 q_extract ?_ <;> refine s_alloc [(.int .i64 0), (.int .i64 0), (.slice none 0 0), (.slice none 0 0), (.slice none 0 0)] 5 10 tZr25_LfD fun h10 => ?_ <;> refine s_sta 10 tAgg25_LdS ?_ <;> refine xL 11 q_assign ?_ <;> refine aL_end (nav ?_) <;> try dsimp only)
 (refine aC_region ?_ <;> refine xL 24 q_move ?_ <;> refine xL 25 q_neq ?_ <;> refine xL 26 q_move ?_ <;> refine xL 27 q_move ?_ <;> refine xL 28 q_neq ?_ <;> refine xL 29 q_pick ?_ <;> refine aL_end (nav ?_) <;> try dsimp only) <;> (
  (first | refine cCd ?_ ?_ | refine cC ?_ ?_) <;> intro hb29
  · refine nav ?_
    (refine aC_region ?_ <;> refine xL 30 (q_build0 stPairs rfl) ?_ <;> refine s_sta 6 tAgg95_LfP ?_ <;> refine xL 7 q_assign ?_ <;> refine aL_end (nav ?_) <;> try dsimp only)
    exact ret_cs (k := 5) 6 (by kernel_rfl) (Tryz.results71) rfl rfl rfl (Nat.le_of_ble_eq_true rfl) (by decide) rfl rfl
  · first | omega | exact absurd (by decide) hb29 | exact Bool.noConfusion hb29)
theorem aBoth_eo (a b : Aut) (op : Int) {A : Aut} (ha : AF Tryz.prog 83 [pAut a] (· = .tup [rawZ, pInt 13])) (hb : AF Tryz.prog 83 [pAut b] (· = .tup [pAut A, pInt 0])) : AF Tryz.prog 71 [pAut a, pAut b, pInt op] (· = .tup [pPZ, pInt 13]) := by
 refine AF.of_body 42 Tryz.func71 rfl Tryz.ntmps71 (Nat.le_of_ble_eq_true rfl) ?_
 intro w0 M0 vs hl hv
 obtain ⟨v0, v1, v2, rfl⟩ := len3 hl
 obtain rfl := hv 2 _ _ rfl rfl
 clear hl hv
 refine nav ?_
 (refine aC_region ?_ <;> refine s_boxa 3 5 fun h3 => ?_ <;> refine s_boxa 4 5 fun h4 => ?_ <;> refine s_alloc [(.int .i64 0), (.slice none 0 0), (.slice none 0 0), (.slice none 0 0), (.slice none 0 0)] 5 6 tZr95_LfP fun h6 => ?_ <;> refine xL 7 q_assign ?_ <;> refine aL_end (nav ?_) <;> try dsimp only)
 (refine aC_region ?_ <;> (refine yL 15 (q_ldao 3 tAgg25_LdS) fun v15 hv15 => ?_; cases hv15) <;> (refine cP 16 (cA Tryz.call83 (ha)) fun va16 vb16 hva16 hvb16 => ?_; cases hvb16) <;> refine xL 14 q_move ?_ <;> refine xL 17 q_extract ?_ <;> refine xL 18 q_extract ?_ <;> refine s_alloc [(.int .i64 0), (.int .i64 0), (.slice none 0 0), (.slice none 0 0), (.slice none 0 0)] 5 8 tZr25_LfD fun h8 => ?_ <;> refine s_sta 8 tAgg25_LdS ?_ <;> refine xL 9 q_assign ?_ <;> refine aL_end (nav ?_) <;> try dsimp only)
 (refine aC_region ?_ <;> (refine yL 20 (q_ldao 4 tAgg25_LdS) fun v20 hv20 => ?_; cases hv20) <;> (refine cP 21 (cA Tryz.call83 (hb)) fun va21 vb21 hva21 hvb21 => ?_; cases hvb21) <;> refine xL 19 q_move ?_ <;> refine xL 22 q_extract ?_ <;> refine xL 23 q_extract ?_ <;> refine s_alloc [(.int .i64 0), (.int .i64 0), (.slice none 0 0), (.slice none 0 0), (.slice none 0 0)] 5 10 tZr25_LfD fun h10 => ?_ <;> refine s_sta 10 tAgg25_LdS ?_ <;> refine xL 11 q_assign ?_ <;> refine aL_end (nav ?_) <;> try dsimp only)
 (refine aC_region ?_ <;> refine xL 24 q_move ?_ <;> refine xL 25 q_neq ?_ <;> refine xL 26 q_move ?_ <;> refine kL 27 ?_ <;> refine kL 28 ?_ <;> refine xL 29 q_pick ?_ <;> refine aL_end (nav ?_) <;> try dsimp only) <;> (
  (first | refine cCd ?_ ?_ | refine cC ?_ ?_) <;> intro hb29
  · refine nav ?_
    (refine aC_region ?_ <;> refine xL 30 (q_build0 stPairs rfl) ?_ <;> refine s_sta 6 tAgg95_LfP ?_ <;> refine xL 7 q_assign ?_ <;> refine aL_end (nav ?_) <;> try dsimp only)
    exact ret_cs (k := 5) 6 (by kernel_rfl) (Tryz.results71) rfl rfl rfl (Nat.le_of_ble_eq_true rfl) (by decide) rfl rfl
  · first | omega | exact absurd (by decide) hb29 | exact Bool.noConfusion hb29)
theorem aBoth_ee (a b : Aut) (op : Int)  (ha : AF Tryz.prog 83 [pAut a] (· = .tup [rawZ, pInt 13])) (hb : AF Tryz.prog 83 [pAut b] (· = .tup [rawZ, pInt 13])) : AF Tryz.prog 71 [pAut a, pAut b, pInt op] (· = .tup [pPZ, pInt 13]) := by
 refine AF.of_body 42 Tryz.func71 rfl Tryz.ntmps71 (Nat.le_of_ble_eq_true rfl) ?_
 intro w0 M0 vs hl hv
 obtain ⟨v0, v1, v2, rfl⟩ := len3 hl
 obtain rfl := hv 2 _ _ rfl rfl
 clear hl hv
 refine nav ?_
 (refine aC_region ?_ <;> refine s_boxa 3 5 fun h3 => ?_ <;> refine s_boxa 4 5 fun h4 => ?_ <;> refine s_alloc [(.int .i64 0), (.slice none 0 0), (.slice none 0 0), (.slice none 0 0), (.slice none 0 0)] 5 6 tZr95_LfP fun h6 => ?_ <;> refine xL 7 q_assign ?_ <;> refine aL_end (nav ?_) <;> try dsimp only)
 (refine aC_region ?_ <;> (refine yL 15 (q_ldao 3 tAgg25_LdS) fun v15 hv15 => ?_; cases hv15) <;> (refine cP 16 (cA Tryz.call83 (ha)) fun va16 vb16 hva16 hvb16 => ?_; cases hvb16) <;> refine xL 14 q_move ?_ <;> refine xL 17 q_extract ?_ <;> refine xL 18 q_extract ?_ <;> refine s_alloc [(.int .i64 0), (.int .i64 0), (.slice none 0 0), (.slice none 0 0), (.slice none 0 0)] 5 8 tZr25_LfD fun h8 => ?_ <;> refine s_sta 8 tAgg25_LdS ?_ <;> refine xL 9 q_assign ?_ <;> refine aL_end (nav ?_) <;> try dsimp only)
 (refine aC_region ?_ <;> (refine yL 20 (q_ldao 4 tAgg25_LdS) fun v20 hv20 => ?_; cases hv20) <;> (refine cP 21 (cA Tryz.call83 (hb)) fun va21 vb21 hva21 hvb21 => ?_; cases hvb21) <;> refine xL 19 q_move ?_ <;> refine xL 22 q_extract ?_ <;> refine xL 23 q_extract ?_ <;> refine s_alloc [(.int .i64 0), (.int .i64 0), (.slice none 0 0), (.slice none 0 0), (.slice none 0 0)] 5 10 tZr25_LfD fun h10 => ?_ <;> refine s_sta 10 tAgg25_LdS ?_ <;> refine xL 11 q_assign ?_ <;> refine aL_end (nav ?_) <;> try dsimp only)
 (refine aC_region ?_ <;> refine xL 24 q_move ?_ <;> refine xL 25 q_neq ?_ <;> refine xL 26 q_move ?_ <;> refine kL 27 ?_ <;> refine kL 28 ?_ <;> refine xL 29 q_pick ?_ <;> refine aL_end (nav ?_) <;> try dsimp only) <;> (
  (first | refine cCd ?_ ?_ | refine cC ?_ ?_) <;> intro hb29
  · refine nav ?_
    (refine aC_region ?_ <;> refine xL 30 (q_build0 stPairs rfl) ?_ <;> refine s_sta 6 tAgg95_LfP ?_ <;> refine xL 7 q_assign ?_ <;> refine aL_end (nav ?_) <;> try dsimp only)
    exact ret_cs (k := 5) 6 (by kernel_rfl) (Tryz.results71) rfl rfl rfl (Nat.le_of_ble_eq_true rfl) (by decide) rfl rfl
  · first | omega | exact absurd (by decide) hb29 | exact Bool.noConfusion hb29)
theorem aBoth_yes (a b A B : Aut) (op : Int) (q : List PrS × List (List Nat)) (ha : AF Tryz.prog 83 [pAut a] (· = .tup [pAut A, pInt 0])) (hb : AF Tryz.prog 83 [pAut b] (· = .tup [pAut B, pInt 0])) (hp : AF Tryz.prog 104 [pAut A, pAut B, pInt op] (· = .tup [pPairs A B op q, pBool true])) : AF Tryz.prog 71 [pAut a, pAut b, pInt op] (· = .tup [pPairs A B op q, pInt 0]) := by
 refine AF.of_body 42 Tryz.func71 rfl Tryz.ntmps71 (Nat.le_of_ble_eq_true rfl) ?_
 intro w0 M0 vs hl hv
 obtain ⟨v0, v1, v2, rfl⟩ := len3 hl
 obtain rfl := hv 2 _ _ rfl rfl
 clear hl hv
 refine nav ?_
 (refine aC_region ?_ <;> refine s_boxa 3 5 fun h3 => ?_ <;> refine s_boxa 4 5 fun h4 => ?_ <;> refine s_alloc [(.int .i64 0), (.slice none 0 0), (.slice none 0 0), (.slice none 0 0), (.slice none 0 0)] 5 6 tZr95_LfP fun h6 => ?_ <;> refine xL 7 q_assign ?_ <;> refine aL_end (nav ?_) <;> try dsimp only)
 (refine aC_region ?_ <;> (refine yL 15 (q_ldao 3 tAgg25_LdS) fun v15 hv15 => ?_; cases hv15) <;> (refine cP 16 (cA Tryz.call83 (ha)) fun va16 vb16 hva16 hvb16 => ?_; cases hvb16) <;> refine xL 14 q_move ?_ <;> refine xL 17 q_extract ?_ <;> refine xL 18 q_extract ?_ <;> refine s_alloc [(.int .i64 0), (.int .i64 0), (.slice none 0 0), (.slice none 0 0), (.slice none 0 0)] 5 8 tZr25_LfD fun h8 => ?_ <;> refine s_sta 8 tAgg25_LdS ?_ <;> refine xL 9 q_assign ?_ <;> refine aL_end (nav ?_) <;> try dsimp only)
 (refine aC_region ?_ <;> (refine yL 20 (q_ldao 4 tAgg25_LdS) fun v20 hv20 => ?_; cases hv20) <;> (refine cP 21 (cA Tryz.call83 (hb)) fun va21 vb21 hva21 hvb21 => ?_; cases hvb21) <;> refine xL 19 q_move ?_ <;> refine xL 22 q_extract ?_ <;> refine xL 23 q_extract ?_ <;> refine s_alloc [(.int .i64 0), (.int .i64 0), (.slice none 0 0), (.slice none 0 0), (.slice none 0 0)] 5 10 tZr25_LfD fun h10 => ?_ <;> refine s_sta 10 tAgg25_LdS ?_ <;> refine xL 11 q_assign ?_ <;> refine aL_end (nav ?_) <;> try dsimp only)
 (refine aC_region ?_ <;> refine xL 24 q_move ?_ <;> refine xL 25 q_neq ?_ <;> refine xL 26 q_move ?_ <;> refine xL 27 q_move ?_ <;> refine xL 28 q_neq ?_ <;> refine xL 29 q_pick ?_ <;> refine aL_end (nav ?_) <;> try dsimp only) <;> (
  (first | refine cCd ?_ ?_ | refine cC ?_ ?_) <;> intro hb29
  · first | omega | exact absurd rfl hb29 | exact Bool.noConfusion hb29
  · refine nav ?_
    (refine aC_region ?_ <;> (refine yL 32 (q_ldao 8 tAgg25_LdS) fun v32 hv32 => ?_; cases hv32) <;> (refine yL 33 (q_ldao 10 tAgg25_LdS) fun v33 hv33 => ?_; cases hv33) <;> refine xL 34 q_move ?_ <;> (refine cP 35 (cA Tryz.call104 (hp)) fun va35 vb35 hva35 hvb35 => ?_; cases hvb35) <;> refine xL 31 q_move ?_ <;> refine xL 36 q_extract ?_ <;> refine xL 37 q_extract ?_ <;> refine s_alloc [(.int .i64 0), (.slice none 0 0), (.slice none 0 0), (.slice none 0 0), (.slice none 0 0)] 5 12 tZr95_LfP fun h12 => ?_ <;> refine s_sta 12 tAgg95_LfP ?_ <;> refine xL 13 q_assign ?_ <;> refine aL_end (nav ?_) <;> try dsimp only)
    (refine aC_region ?_ <;> refine xL 38 q_move ?_ <;> refine xL 39 q_not ?_ <;> refine aL_end (nav ?_) <;> try dsimp only)
    (first | refine cCd ?_ ?_ | refine cC ?_ ?_) <;> intro hb39
    · first
      | exact Bool.noConfusion hb39
      | skip
    · first
      | exact Bool.noConfusion hb39
      | (
       refine nav ?_
       (refine aC_region ?_ <;> (refine yL 41 (q_ldao 12 tAgg95_LfP) fun v41 hv41 => ?_; cases hv41) <;> refine s_sta 6 tAgg95_LfP ?_ <;> refine xL 7 q_assign ?_ <;> refine aL_end (nav ?_) <;> try dsimp only)
       exact ret_cs (k := 5) 6 (by kernel_rfl) (Tryz.results71) rfl rfl rfl (Nat.le_of_ble_eq_true rfl) (by decide) rfl rfl))
abbrev V5 := { u : Value × Value × Value × Value × Value // En.one (PV.val u.1) = true ∧ En.one (PV.val u.2.1) = true ∧ En.one (PV.val u.2.2.1) = true ∧ En.one (PV.val u.2.2.2.1) = true ∧ En.one (PV.val u.2.2.2.2) = true }
theorem aBoth_no (a b A B : Aut) (op : Int) (ha : AF Tryz.prog 83 [pAut a] (· = .tup [pAut A, pInt 0])) (hb : AF Tryz.prog 83 [pAut b] (· = .tup [pAut B, pInt 0])) (hp : AF Tryz.prog 104 [pAut A, pAut B, pInt op] (fun p => ∃ i : V5, p = .tup [.agg [.val i.1.1, .val i.1.2.1, .val i.1.2.2.1, .val i.1.2.2.2.1, .val i.1.2.2.2.2], pBool false])) : AF Tryz.prog 71 [pAut a, pAut b, pInt op] (· = .tup [pPZ, pInt 13]) := by
 refine AF.of_body 42 Tryz.func71 rfl Tryz.ntmps71 (Nat.le_of_ble_eq_true rfl) ?_
 intro w0 M0 vs hl hv
 obtain ⟨v0, v1, v2, rfl⟩ := len3 hl
 obtain rfl := hv 2 _ _ rfl rfl
 clear hl hv
 refine nav ?_
 (refine aC_region ?_ <;> refine s_boxa 3 5 fun h3 => ?_ <;> refine s_boxa 4 5 fun h4 => ?_ <;> refine s_alloc [(.int .i64 0), (.slice none 0 0), (.slice none 0 0), (.slice none 0 0), (.slice none 0 0)] 5 6 tZr95_LfP fun h6 => ?_ <;> refine xL 7 q_assign ?_ <;> refine aL_end (nav ?_) <;> try dsimp only)
 (refine aC_region ?_ <;> (refine yL 15 (q_ldao 3 tAgg25_LdS) fun v15 hv15 => ?_; cases hv15) <;> (refine cP 16 (cA Tryz.call83 (ha)) fun va16 vb16 hva16 hvb16 => ?_; cases hvb16) <;> refine xL 14 q_move ?_ <;> refine xL 17 q_extract ?_ <;> refine xL 18 q_extract ?_ <;> refine s_alloc [(.int .i64 0), (.int .i64 0), (.slice none 0 0), (.slice none 0 0), (.slice none 0 0)] 5 8 tZr25_LfD fun h8 => ?_ <;> refine s_sta 8 tAgg25_LdS ?_ <;> refine xL 9 q_assign ?_ <;> refine aL_end (nav ?_) <;> try dsimp only)
 (refine aC_region ?_ <;> (refine yL 20 (q_ldao 4 tAgg25_LdS) fun v20 hv20 => ?_; cases hv20) <;> (refine cP 21 (cA Tryz.call83 (hb)) fun va21 vb21 hva21 hvb21 => ?_; cases hvb21) <;> refine xL 19 q_move ?_ <;> refine xL 22 q_extract ?_ <;> refine xL 23 q_extract ?_ <;> refine s_alloc [(.int .i64 0), (.int .i64 0), (.slice none 0 0), (.slice none 0 0), (.slice none 0 0)] 5 10 tZr25_LfD fun h10 => ?_ <;> refine s_sta 10 tAgg25_LdS ?_ <;> refine xL 11 q_assign ?_ <;> refine aL_end (nav ?_) <;> try dsimp only)
 (refine aC_region ?_ <;> refine xL 24 q_move ?_ <;> refine xL 25 q_neq ?_ <;> refine xL 26 q_move ?_ <;> refine xL 27 q_move ?_ <;> refine xL 28 q_neq ?_ <;> refine xL 29 q_pick ?_ <;> refine aL_end (nav ?_) <;> try dsimp only) <;> (
  (first | refine cCd ?_ ?_ | refine cC ?_ ?_) <;> intro hb29
  · first | omega | exact absurd rfl hb29 | exact Bool.noConfusion hb29
  · refine nav ?_
    (refine aC_region ?_ <;> (refine yL 32 (q_ldao 8 tAgg25_LdS) fun v32 hv32 => ?_; cases hv32) <;> (refine yL 33 (q_ldao 10 tAgg25_LdS) fun v33 hv33 => ?_; cases hv33) <;> refine xL 34 q_move ?_ <;> (refine cPx 35 (cA Tryz.call104 hp) (fun i35 v1 v2 hv1 hv2 => ?_) (fun _ => rfl); cases hv2; obtain ⟨⟨u0, u1, u2, u3, u4⟩, n0, n1, n2, n3, n4⟩ := i35; dsimp only at n0 n1 n2 n3 n4) <;> refine xL 31 q_move ?_ <;> refine xL 36 q_extract ?_ <;> refine xL 37 q_extract ?_ <;> refine s_alloc [(.int .i64 0), (.slice none 0 0), (.slice none 0 0), (.slice none 0 0), (.slice none 0 0)] 5 12 tZr95_LfP fun h12 => ?_ <;> refine s_sta 12 tAgg95_LfP ?_ <;> refine xL 13 q_assign ?_ <;> refine aL_end (nav ?_) <;> try dsimp only)
    (refine aC_region ?_ <;> refine xL 38 q_move ?_ <;> refine xL 39 q_not ?_ <;> refine aL_end (nav ?_) <;> try dsimp only)
    (first | refine cCd ?_ ?_ | refine cC ?_ ?_) <;> intro hb39
    · first
      | exact Bool.noConfusion hb39
      | (
       refine nav ?_
       (refine aC_region ?_ <;> refine xL 40 (q_build0 stPairs rfl) ?_ <;> refine s_sta 6 tAgg95_LfP ?_ <;> refine xL 7 q_assign ?_ <;> refine aL_end (nav ?_) <;> try dsimp only)
       exact ret_cs (k := 5) 6 (by kernel_rfl) (Tryz.results71) rfl rfl rfl (Nat.le_of_ble_eq_true rfl) (by decide) rfl rfl)
    · first
      | exact Bool.noConfusion hb39
      | skip)
theorem lim_err {x : Option Aut} {e : Int} (h : lim x = .error e) : e = 13 := by
 cases x with
 | some a => cases h
 | none => cases h; rfl
theorem redX_err {a : Aut} {e : Int} (h : redX a = .error e) : e = 13 := by
 unfold redX at h
 split at h
 · exact lim_err h
 · cases h; rfl
theorem aBoth_e (a b : Aut) (op : Int) (hf : fitX a b = 0) : AF Tryz.prog 71 [pAut a, pAut b, pInt op] (· = resB a b op) := by
 obtain ⟨h1, h2, h3⟩ := fit_zero hf
 have ha := aReduced_x a (aok_of h1)
 have hb := aReduced_x b (aok_of h2)
 unfold resB bothX
 cases ea : redX a with
 | error e =>
   obtain rfl := redX_err ea
   rw [ea] at ha
   cases eb : redX b with
   | error f =>
     obtain rfl := redX_err eb
     rw [eb] at hb
     exact aBoth_ee a b op ha hb
   | ok B => rw [eb] at hb; exact aBoth_eo a b op ha hb
 | ok A =>
   rw [ea] at ha
   cases eb : redX b with
   | error f =>
     obtain rfl := redX_err eb
     rw [eb] at hb
     exact aBoth_oe a b op ha hb
   | ok B =>
     rw [eb] at hb
     obtain ⟨dA, sA⟩ := redX_det (aok_of h1) ea
     obtain ⟨dB, sB⟩ := redX_det (aok_of h2) eb
     have hp := aProduct_e A B op dA dB (by rw [sA, sB, h3])
     dsimp only
     cases eq : prodQ A B with
     | some q => exact aBoth_yes a b A B op q ha hb (hp.mono fun p hr => by
        rcases hr with ⟨q', h4, h5⟩ | ⟨h4, _⟩
        · rw [eq] at h4; cases h4; exact h5
        · rw [eq] at h4; cases h4)
     | none => exact aBoth_no a b A B op ha hb (hp.mono fun p hr => by
        rcases hr with ⟨q', h4, h5⟩ | ⟨_, u0, u1, u2, u3, u4, n0, n1, n2, n3, n4, h5⟩
        · rw [eq] at h4; cases h4
        · exact ⟨⟨(u0, u1, u2, u3, u4), n0, n1, n2, n3, n4⟩, h5⟩)
theorem aCompare_bad (a b : Aut) (op e : Int) (he : ¬ e = 0) (hf : AF Tryz.prog 70 [pAut a, pAut b] (· = pInt e)) : AF Tryz.prog 85 [pAut a, pAut b, pInt op] (· = .tup [pBool false, pInts [], pInt e]) := by
 refine AF.of_body 38 Tryz.func85 rfl Tryz.ntmps85 (Nat.le_of_ble_eq_true rfl) ?_
 intro w0 M0 vs hl hv
 obtain ⟨v0, v1, v2, rfl⟩ := len3 hl
 obtain rfl := hv 2 _ _ rfl rfl
 clear hl hv
 refine nav ?_
 (refine aC_region ?_ <;> refine s_boxa 3 5 fun h3 => ?_ <;> refine s_boxa 4 5 fun h4 => ?_ <;> refine xL 6 q_assign ?_ <;> refine xL 7 q_assign ?_ <;> refine xL 8 q_assign ?_ <;> refine aL_end (nav ?_) <;> try dsimp only)
 (refine aC_region ?_ <;> (refine yL 14 (q_ldao 3 tAgg25_LdS) fun v14 hv14 => ?_; cases hv14) <;> (refine yL 15 (q_ldao 4 tAgg25_LdS) fun v15 hv15 => ?_; cases hv15) <;> (refine cS 16 (cA Tryz.call70 (hf)) fun v16 hv16 => ?_; cases hv16) <;> refine xL 9 q_assign ?_ <;> refine aL_end (nav ?_) <;> try dsimp only)
 (refine aC_region ?_ <;> refine xL 17 q_move ?_ <;> refine xL 18 q_neq ?_ <;> refine aL_end (nav ?_) <;> try dsimp only)
 (first | refine cCd ?_ ?_ | refine cC ?_ ?_) <;> intro hb18
 · refine nav ?_
   (refine aC_region ?_ <;> refine xL 19 q_move ?_ <;> refine xL 6 q_assign ?_ <;> refine xL 7 q_assign ?_ <;> refine xL 8 q_assign ?_ <;> refine aL_end (nav ?_) <;> try dsimp only)
   refine aR_ent (nilSlD (t := 7) rfl) fun _ => ?_
   exact ret_sss (Tryz.results85) rfl rfl rfl rfl
 · exact absurd (by simpa using hb18) he
theorem aCompare_err (a b : Aut) (op e : Int) (he : ¬ e = 0) (hf : AF Tryz.prog 70 [pAut a, pAut b] (· = pInt 0)) (hb : AF Tryz.prog 71 [pAut a, pAut b, pInt op] (· = .tup [pPZ, pInt e])) : AF Tryz.prog 85 [pAut a, pAut b, pInt op] (· = .tup [pBool false, pInts [], pInt e]) := by
 refine AF.of_body 38 Tryz.func85 rfl Tryz.ntmps85 (Nat.le_of_ble_eq_true rfl) ?_
 intro w0 M0 vs hl hv
 obtain ⟨v0, v1, v2, rfl⟩ := len3 hl
 obtain rfl := hv 2 _ _ rfl rfl
 clear hl hv
 refine nav ?_
 (refine aC_region ?_ <;> refine s_boxa 3 5 fun h3 => ?_ <;> refine s_boxa 4 5 fun h4 => ?_ <;> refine xL 6 q_assign ?_ <;> refine xL 7 q_assign ?_ <;> refine xL 8 q_assign ?_ <;> refine aL_end (nav ?_) <;> try dsimp only)
 (refine aC_region ?_ <;> (refine yL 14 (q_ldao 3 tAgg25_LdS) fun v14 hv14 => ?_; cases hv14) <;> (refine yL 15 (q_ldao 4 tAgg25_LdS) fun v15 hv15 => ?_; cases hv15) <;> (refine cS 16 (cA Tryz.call70 (hf)) fun v16 hv16 => ?_; cases hv16) <;> refine xL 9 q_assign ?_ <;> refine aL_end (nav ?_) <;> try dsimp only)
 (refine aC_region ?_ <;> refine xL 17 q_move ?_ <;> refine xL 18 q_neq ?_ <;> refine aL_end (nav ?_) <;> try dsimp only)
 (first | refine cCd ?_ ?_ | refine cC ?_ ?_) <;> intro hb18
 · first | omega | exact absurd rfl hb18 | exact Bool.noConfusion hb18
 · refine nav ?_
   (refine aC_region ?_ <;> (refine yL 21 (q_ldao 3 tAgg25_LdS) fun v21 hv21 => ?_; cases hv21) <;> (refine yL 22 (q_ldao 4 tAgg25_LdS) fun v22 hv22 => ?_; cases hv22) <;> refine xL 23 q_move ?_ <;> (refine cP 24 (cA Tryz.call71 (hb)) fun va24 vb24 hva24 hvb24 => ?_; cases hvb24) <;> refine xL 20 q_move ?_ <;> refine xL 25 q_extract ?_ <;> refine xL 26 q_extract ?_ <;> refine s_alloc [(.int .i64 0), (.slice none 0 0), (.slice none 0 0), (.slice none 0 0), (.slice none 0 0)] 5 10 tZr95_LfP fun h10 => ?_ <;> refine s_sta 10 tAgg95_LfP ?_ <;> refine xL 11 q_assign ?_ <;> refine aL_end (nav ?_) <;> try dsimp only)
   (refine aC_region ?_ <;> refine xL 27 q_move ?_ <;> refine xL 28 q_neq ?_ <;> refine aL_end (nav ?_) <;> try dsimp only)
   (first | refine cCd ?_ ?_ | refine cC ?_ ?_) <;> intro hb28
   · refine nav ?_
     (refine aC_region ?_ <;> refine xL 29 q_move ?_ <;> refine xL 6 q_assign ?_ <;> refine xL 7 q_assign ?_ <;> refine xL 8 q_assign ?_ <;> refine aL_end (nav ?_) <;> try dsimp only)
     refine aR_ent (nilSlD (t := 7) rfl) fun _ => ?_
     exact ret_sss (Tryz.results85) rfl rfl rfl rfl
   · exact absurd (by simpa using hb28) he
theorem aCompare_ok (a b A B : Aut) (op : Int) (q : List PrS × List (List Nat)) (x : List Int) (t : Bool) (hf : AF Tryz.prog 70 [pAut a, pAut b] (· = pInt 0)) (hb : AF Tryz.prog 71 [pAut a, pAut b, pInt op] (· = .tup [pPairs A B op q, pInt 0])) (hg : AF Tryz.prog 115 [pPairs A B op q] (· = .tup [pInts x, pBool t])) : AF Tryz.prog 85 [pAut a, pAut b, pInt op] (· = .tup [pBool (!t), pInts x, pInt 0]) := by
 refine AF.of_body 38 Tryz.func85 rfl Tryz.ntmps85 (Nat.le_of_ble_eq_true rfl) ?_
 intro w0 M0 vs hl hv
 obtain ⟨v0, v1, v2, rfl⟩ := len3 hl
 obtain rfl := hv 2 _ _ rfl rfl
 clear hl hv
 refine nav ?_
 (refine aC_region ?_ <;> refine s_boxa 3 5 fun h3 => ?_ <;> refine s_boxa 4 5 fun h4 => ?_ <;> refine xL 6 q_assign ?_ <;> refine xL 7 q_assign ?_ <;> refine xL 8 q_assign ?_ <;> refine aL_end (nav ?_) <;> try dsimp only)
 (refine aC_region ?_ <;> (refine yL 14 (q_ldao 3 tAgg25_LdS) fun v14 hv14 => ?_; cases hv14) <;> (refine yL 15 (q_ldao 4 tAgg25_LdS) fun v15 hv15 => ?_; cases hv15) <;> (refine cS 16 (cA Tryz.call70 (hf)) fun v16 hv16 => ?_; cases hv16) <;> refine xL 9 q_assign ?_ <;> refine aL_end (nav ?_) <;> try dsimp only)
 (refine aC_region ?_ <;> refine xL 17 q_move ?_ <;> refine xL 18 q_neq ?_ <;> refine aL_end (nav ?_) <;> try dsimp only)
 (first | refine cCd ?_ ?_ | refine cC ?_ ?_) <;> intro hb18
 · first | omega | exact absurd rfl hb18 | exact Bool.noConfusion hb18
 · refine nav ?_
   (refine aC_region ?_ <;> (refine yL 21 (q_ldao 3 tAgg25_LdS) fun v21 hv21 => ?_; cases hv21) <;> (refine yL 22 (q_ldao 4 tAgg25_LdS) fun v22 hv22 => ?_; cases hv22) <;> refine xL 23 q_move ?_ <;> (refine cP 24 (cA Tryz.call71 (hb)) fun va24 vb24 hva24 hvb24 => ?_; cases hvb24) <;> refine xL 20 q_move ?_ <;> refine xL 25 q_extract ?_ <;> refine xL 26 q_extract ?_ <;> refine s_alloc [(.int .i64 0), (.slice none 0 0), (.slice none 0 0), (.slice none 0 0), (.slice none 0 0)] 5 10 tZr95_LfP fun h10 => ?_ <;> refine s_sta 10 tAgg95_LfP ?_ <;> refine xL 11 q_assign ?_ <;> refine aL_end (nav ?_) <;> try dsimp only)
   (refine aC_region ?_ <;> refine xL 27 q_move ?_ <;> refine xL 28 q_neq ?_ <;> refine aL_end (nav ?_) <;> try dsimp only)
   (first | refine cCd ?_ ?_ | refine cC ?_ ?_) <;> intro hb28
   · first | omega | exact absurd rfl hb28 | exact Bool.noConfusion hb28
   · refine nav ?_
     (refine aC_region ?_ <;> (refine yL 31 (q_ldao 10 tAgg95_LfP) fun v31 hv31 => ?_; cases hv31) <;> (refine cP 32 (cA Tryz.call115 (hg)) fun va32 vb32 hva32 hvb32 => ?_; cases hvb32) <;> refine xL 30 q_move ?_ <;> refine xL 33 q_extract ?_ <;> refine xL 34 q_extract ?_ <;> refine xL 12 q_assign ?_ <;> refine xL 13 q_assign ?_ <;> refine aL_end (nav ?_) <;> try dsimp only)
     (refine aC_region ?_ <;> refine xL 35 q_move ?_ <;> refine xL 36 q_not ?_ <;> refine xL 37 q_move ?_ <;> refine xL 6 q_assign ?_ <;> refine xL 7 q_assign ?_ <;> refine xL 8 q_assign ?_ <;> refine aL_end (nav ?_) <;> try dsimp only)
     exact ret_sss (Tryz.results85) rfl rfl rfl rfl
def resC (x : Bool × List Int × Int) : PV := .tup [pBool x.1, pInts x.2.1, pInt x.2.2]
theorem aCompare_e (a b : Aut) (op : Int) : AF Tryz.prog 85 [pAut a, pAut b, pInt op] (· = resC (cmpX a b op)) := by
 have hf := aFit_e a b
 unfold cmpX
 by_cases h0 : fitX a b = 0
 · rw [if_neg (fun h => h h0)]
   have hb := aBoth_e a b op h0
   rw [h0] at hf
   unfold resB at hb
   cases e : bothX a b with
   | error f =>
     rw [e] at hb
     refine aCompare_err a b op f (fun hf0 => ?_) hf hb
     unfold bothX at e
     split at e
     · split at e <;> cases e
       omega
     · cases e; omega
   | ok x =>
     obtain ⟨A, B, o, rows⟩ := x
     rw [e] at hb
     obtain ⟨h1, h2, h3⟩ := fit_zero h0
     unfold bothX at e
     split at e
     · rename_i A' B' ea eb
       split at e
       · rename_i q' eq
         cases e
         obtain ⟨dA, sA⟩ := redX_det (aok_of h1) ea
         obtain ⟨dB, sB⟩ := redX_det (aok_of h2) eb
         have hok := (prod_ok dA dB (by rw [sA, sB, h3]) eq).1
         have hg := aFirst_e A B op o rows eq hok.zero hok.cap
         have := aCompare_ok a b A B op (o, rows) _ _ hf hb hg
         rw [Bool.not_not] at this
         exact this
       · cases e
     · cases e
 · rw [if_pos h0]
   exact aCompare_bad a b op _ h0 hf
theorem aEquivalent_c (a b : Aut) (t : Bool) (l : List Int) (e : Int) (h : AF Tryz.prog 85 [pAut a, pAut b, pInt 4] (· = .tup [pBool t, pInts l, pInt e])) : AF Tryz.prog 33 [pAut a, pAut b] (· = .tup [pBool t, pInts l, pInt e]) := by
 refine AF.of_body 13 Tryz.func33 rfl Tryz.ntmps33 (Nat.le_of_ble_eq_true rfl) ?_
 intro w0 M0 vs hl hv
 obtain ⟨v0, v1, rfl⟩ := len2 hl
 clear hl hv
 refine nav ?_
 (refine aC_region ?_ <;> refine s_boxa 2 5 fun h2 => ?_ <;> refine s_boxa 3 5 fun h3 => ?_ <;> refine xL 4 q_assign ?_ <;> refine xL 5 q_assign ?_ <;> refine xL 6 q_assign ?_ <;> refine aL_end (nav ?_) <;> try dsimp only)
 (refine aC_region ?_ <;> (refine yL 7 (q_ldao 2 tAgg25_LdS) fun v7 hv7 => ?_; cases hv7) <;> (refine yL 8 (q_ldao 3 tAgg25_LdS) fun v8 hv8 => ?_; cases hv8) <;> (refine cPx3 9 (cA Tryz.call85 h) fun va9 vb9 vc9 hva9 hvb9 hvc9 => ?_; cases hva9; cases hvc9) <;> refine xL 10 q_extract ?_ <;> refine xL 11 q_extract ?_ <;> refine xL 12 q_extract ?_ <;> refine xL 4 q_assign ?_ <;> refine xL 5 q_assign ?_ <;> refine xL 6 q_assign ?_ <;> refine aL_end (nav ?_) <;> try dsimp only)
 exact ret_sss (Tryz.results33) rfl rfl rfl rfl
theorem aEquivalent_e (a b : Aut) : AF Tryz.prog 33 [pAut a, pAut b] (· = resC (cmpX a b 4)) := aEquivalent_c a b _ _ _ (aCompare_e a b 4)
theorem eq_end {α : Type} {a b : List α} (hl : a.length = b.length) (h : ∀ (j : Nat) (x y : α), a[j]? = some x → b[j]? = some y → x = y) : a = b := by
 refine List.ext_getElem? fun j => ?_
 by_cases hj : j < a.length
 · obtain ⟨x, hx⟩ := get_some hj
   obtain ⟨y, hy⟩ := get_some (show j < b.length by omega)
   rw [hx, hy, h j x y hx hy]
 · rw [List.getElem?_eq_none (by omega), List.getElem?_eq_none (by omega)]
theorem ne_at {α : Type} {a b : List α} {j : Nat} {x y : α} (hx : a[j]? = some x) (hy : b[j]? = some y) (h : x ≠ y) : a ≠ b := fun e => by
 subst e; rw [hx] at hy; exact h (Option.some.inj hy)
instance : DecidableEq Mv := fun a b => if h : eqM a b = true then .isTrue (eqM_iff.1 h) else .isFalse fun e => h (eqM_iff.2 e)
theorem eqM_dec (a b : Mv) : eqM a b = decide (a = b) := by
 by_cases h : a = b
 · rw [decide_eq_true h]; exact eqM_iff.2 h
 · rw [decide_eq_false h]
   cases e : eqM a b with
   | false => rfl
   | true => exact absurd (eqM_iff.1 e) h
theorem r07SameWord_e (a b : List Int) : AF Tryz.prog 69 [pInts a, pInts b] (· = pBool (decide (a = b))) := by
 refine AF.of_body 26 Tryz.func69 rfl Tryz.ntmps69 (Nat.le_of_ble_eq_true rfl) ?_
 intro w0 M0 vs hl hv
 obtain ⟨v0, v1, rfl⟩ := len2 hl
 clear hl hv
 refine aC_slen 0 rfl fun hlen => ?_
 refine aC_slen 1 rfl fun hlen2 => ?_
 refine nav ?_
 (refine aC_region ?_ <;> refine xL 4 q_assign ?_ <;> refine aL_end (nav ?_) <;> try dsimp only)
 (refine aC_region ?_ <;> refine xL 6 q_move ?_ <;> refine xL 7 (q_len tSl22_LbB) ?_ <;> refine xL 8 q_move ?_ <;> refine xL 9 (q_len tSl22_LbB) ?_ <;> refine xL 10 q_neq ?_ <;> refine aL_end (nav ?_) <;> try dsimp only)
 (first | refine cCd ?_ ?_ | refine cC ?_ ?_) <;> intro hb10
 · first
   | exact Bool.noConfusion hb10
   | (
    refine nav ?_
    (refine aC_region ?_ <;> refine xL 4 q_assign ?_ <;> refine aL_end (nav ?_) <;> try dsimp only)
    refine ret_shr (Tryz.results69) rfl ?_
    rw [decide_eq_false (fun e => by subst e; exact hb10 rfl)])
 · first
   | exact Bool.noConfusion hb10
   | (
    have hll : a.length = b.length := by omega
    refine nav ?_
    (refine aC_region ?_ <;> refine xL 5 q_assign ?_ <;> refine aL_end (nav ?_) <;> try dsimp only)
    refine aC_loop (ι := { k : Nat // k ≤ a.length ∧ ∀ j x y, j < k → a[j]? = some x → b[j]? = some y → x = y }) (fun k => ⟨[(0, _, _), (1, _, _), (5, .int .i64 k.1, pInt k.1)], []⟩) (fun k => a.length - k.1) ⟨0, by omega, by omega⟩ (fun a w H => H.weaken ⟨rfl, rfl, rfl, trivial⟩ trivial) ?_
    rintro ⟨k, hk, hp⟩
    dsimp only
    refine nav ?_
    (refine aC_region ?_ <;> refine xL 11 q_move ?_ <;> refine xL 12 q_move ?_ <;> refine xL 13 (q_len tSl22_LbB) ?_ <;> refine xL 14 q_lss ?_ <;> refine aL_end (nav ?_) <;> try dsimp only)
    (first | refine cCd ?_ ?_ | refine cC ?_ ?_) <;> intro hb14
    · first
      | exact Bool.noConfusion hb14
      | (
       obtain ⟨x, hx⟩ := get_some (show k < a.length by omega)
       obtain ⟨y, hy⟩ := get_some (show k < b.length by omega)
       have e1 := map_at (f := pInt) hx
       have e2 := map_at (f := pInt) hy
       refine nav ?_
       (refine aC_draw (fun i => ([] : List Nat).elem i) [] (by kernel_rfl) ?_ <;> refine xD 0 17 rfl q_move ?_ <;> refine xD 1 18 rfl q_move ?_ <;> refine xD 2 19 rfl (q_idxN tSl22_LbB) ?_ <;> (refine yD 3 20 rfl (q_ld tNa3_LbB) fun v20 hv20 => ?_; cases hv20) <;> refine xD 4 21 rfl q_move ?_ <;> refine xE 5 22 rfl q_move ?_ <;> refine xE 6 23 rfl (q_idxN tSl22_LbB) ?_ <;> (refine yE 7 24 rfl (q_ld tNa3_LbB) fun v24 hv24 => ?_; cases hv24) <;> refine xE 8 25 rfl q_neq ?_ <;> refine aD_end (by kernel_rfl) (nav ?_) <;> try dsimp only)
       (first | refine cCd ?_ ?_ | refine cC ?_ ?_) <;> intro hb25
       · first
         | exact Bool.noConfusion hb25
         | (
          refine nav ?_
          (refine aC_region ?_ <;> refine xL 4 q_assign ?_ <;> refine aL_end (nav ?_) <;> try dsimp only)
          refine ret_shr (Tryz.results69) rfl ?_
          rw [decide_eq_false (ne_at hx hy (by simpa using hb25))])
       · first
         | exact Bool.noConfusion hb25
         | (
          refine nav ?_
          (refine aC_region ?_ <;> refine xL 15 q_move ?_ <;> refine xL 16 q_add ?_ <;> refine xL 5 q_assign ?_ <;> refine aL_end (nav ?_) <;> try dsimp only)
          refine aN_again (
           ⟨k + 1, lt_of_get hx, fun j x' y' hj hx' hy' => by
            by_cases e : j = k
            · subst e; rw [hx] at hx'; rw [hy] at hy'; cases hx'; cases hy'; simpa using hb25
            · exact hp j x' y' (by omega) hx' hy'⟩
           ) (by dsimp only; omega) ⟨rfl, rfl, rfl, trivial⟩ trivial))
    · first
      | exact Bool.noConfusion hb14
      | (
       refine nav ?_
       (refine aC_region ?_ <;> refine xL 4 q_assign ?_ <;> refine aL_end (nav ?_) <;> try dsimp only)
       refine ret_shr (Tryz.results69) rfl ?_
       rw [decide_eq_true (eq_end hll fun j x y hx hy => hp j x y (by have := lt_of_get hx; omega) hx hy)]))
theorem sEqualInt_e (a b : List Int) : AF Tryz.prog 32 [pInts a, pInts b] (· = pBool (decide (a = b))) := by
 refine AF.of_body 26 Tryz.func32 rfl Tryz.ntmps32 (Nat.le_of_ble_eq_true rfl) ?_
 intro w0 M0 vs hl hv
 obtain ⟨v0, v1, rfl⟩ := len2 hl
 clear hl hv
 refine aC_slen 0 rfl fun hlen => ?_
 refine aC_slen 1 rfl fun hlen2 => ?_
 refine nav ?_
 (refine aC_region ?_ <;> refine xL 4 q_assign ?_ <;> refine aL_end (nav ?_) <;> try dsimp only)
 (refine aC_region ?_ <;> refine xL 6 q_move ?_ <;> refine xL 7 (q_len tSl22_LbB) ?_ <;> refine xL 8 q_move ?_ <;> refine xL 9 (q_len tSl22_LbB) ?_ <;> refine xL 10 q_neq ?_ <;> refine aL_end (nav ?_) <;> try dsimp only)
 (first | refine cCd ?_ ?_ | refine cC ?_ ?_) <;> intro hb10
 · first
   | exact Bool.noConfusion hb10
   | (
    refine nav ?_
    (refine aC_region ?_ <;> refine xL 4 q_assign ?_ <;> refine aL_end (nav ?_) <;> try dsimp only)
    refine ret_shr (Tryz.results32) rfl ?_
    rw [decide_eq_false (fun e => by subst e; exact hb10 rfl)])
 · first
   | exact Bool.noConfusion hb10
   | (
    have hll : a.length = b.length := by omega
    refine nav ?_
    (refine aC_region ?_ <;> refine xL 11 q_move ?_ <;> refine xL 12 (q_len tSl22_LbB) ?_ <;> refine xL 13 q_move ?_ <;> refine aL_end (nav ?_) <;> try dsimp only)
    refine aC_loop (ι := { k : Nat // k ≤ a.length ∧ ∀ j x y, j < k → a[j]? = some x → b[j]? = some y → x = y }) (fun k => ⟨[(0, _, _), (1, _, _), (12, _, _), (13, .int .i64 k.1, pInt k.1)], []⟩) (fun k => a.length - k.1) ⟨0, by omega, by omega⟩ (fun a w H => H.weaken ⟨rfl, rfl, rfl, rfl, trivial⟩ trivial) ?_
    rintro ⟨k, hk, hp⟩
    dsimp only
    refine nav ?_
    (refine aC_region ?_ <;> refine xL 14 q_lss ?_ <;> refine aL_end (nav ?_) <;> try dsimp only)
    (first | refine cCd ?_ ?_ | refine cC ?_ ?_) <;> intro hb14
    · first
      | exact Bool.noConfusion hb14
      | (
       obtain ⟨x, hx⟩ := get_some (show k < a.length by omega)
       obtain ⟨y, hy⟩ := get_some (show k < b.length by omega)
       have e1 := map_at (f := pInt) hx
       have e2 := map_at (f := pInt) hy
       refine nav ?_
       (refine aC_region ?_ <;> refine xL 15 q_move ?_ <;> refine xL 5 q_assign ?_ <;> refine aL_end (nav ?_) <;> try dsimp only)
       (refine aC_draw (fun i => ([] : List Nat).elem i) [] (by kernel_rfl) ?_ <;> refine xD 0 16 rfl q_move ?_ <;> refine xD 1 17 rfl q_move ?_ <;> refine xD 2 18 rfl (q_idxN tSl22_LbB) ?_ <;> (refine yD 3 19 rfl (q_ld tNa3_LbB) fun v19 hv19 => ?_; cases hv19) <;> refine xD 4 20 rfl q_move ?_ <;> refine xE 5 21 rfl q_move ?_ <;> refine xE 6 22 rfl (q_idxN tSl22_LbB) ?_ <;> (refine yE 7 23 rfl (q_ld tNa3_LbB) fun v23 hv23 => ?_; cases hv23) <;> refine xE 8 24 rfl q_neq ?_ <;> refine aD_end (by kernel_rfl) (nav ?_) <;> try dsimp only)
       (first | refine cCd ?_ ?_ | refine cC ?_ ?_) <;> intro hb24
       · first
         | exact Bool.noConfusion hb24
         | (
          refine nav ?_
          (refine aC_region ?_ <;> refine xL 4 q_assign ?_ <;> refine aL_end (nav ?_) <;> try dsimp only)
          refine ret_shr (Tryz.results32) rfl ?_
          rw [decide_eq_false (ne_at hx hy (by simpa using hb24))])
       · first
         | exact Bool.noConfusion hb24
         | (
          refine nav ?_
          (refine aC_region ?_ <;> refine xL 25 q_add ?_ <;> refine xL 13 q_move ?_ <;> refine aL_end (nav ?_) <;> try dsimp only)
          refine aN_again (
           ⟨k + 1, lt_of_get hx, fun j x' y' hj hx' hy' => by
            by_cases e : j = k
            · subst e; rw [hx] at hx'; rw [hy] at hy'; cases hx'; cases hy'; simpa using hb24
            · exact hp j x' y' (by omega) hx' hy'⟩
           ) (by dsimp only; omega) ⟨rfl, rfl, rfl, rfl, trivial⟩ trivial))
    · first
      | exact Bool.noConfusion hb14
      | (
       refine nav ?_
       (refine aC_region ?_ <;> refine xL 4 q_assign ?_ <;> refine aL_end (nav ?_) <;> try dsimp only)
       refine ret_shr (Tryz.results32) rfl ?_
       rw [decide_eq_true (eq_end hll fun j x y hx hy => hp j x y (by have := lt_of_get hx; omega) hx hy)]))
theorem sEqualMv_e (a b : List Mv) : AF Tryz.prog 54 [pMvs a, pMvs b] (· = pBool (decide (a = b))) := by
 refine AF.of_body 26 Tryz.func54 rfl Tryz.ntmps54 (Nat.le_of_ble_eq_true rfl) ?_
 intro w0 M0 vs hl hv
 obtain ⟨v0, v1, rfl⟩ := len2 hl
 clear hl hv
 refine aC_slen 0 rfl fun hlen => ?_
 refine aC_slen 1 rfl fun hlen2 => ?_
 refine nav ?_
 (refine aC_region ?_ <;> refine xL 4 q_assign ?_ <;> refine aL_end (nav ?_) <;> try dsimp only)
 (refine aC_region ?_ <;> refine xL 6 q_move ?_ <;> refine xL 7 (q_len tSl23_LdI) ?_ <;> refine xL 8 q_move ?_ <;> refine xL 9 (q_len tSl23_LdI) ?_ <;> refine xL 10 q_neq ?_ <;> refine aL_end (nav ?_) <;> try dsimp only)
 (first | refine cCd ?_ ?_ | refine cC ?_ ?_) <;> intro hb10
 · first
   | exact Bool.noConfusion hb10
   | (
    refine nav ?_
    (refine aC_region ?_ <;> refine xL 4 q_assign ?_ <;> refine aL_end (nav ?_) <;> try dsimp only)
    refine ret_shr (Tryz.results54) rfl ?_
    rw [decide_eq_false (fun e => by subst e; exact hb10 rfl)])
 · first
   | exact Bool.noConfusion hb10
   | (
    have hll : a.length = b.length := by omega
    refine nav ?_
    (refine aC_region ?_ <;> refine xL 11 q_move ?_ <;> refine xL 12 (q_len tSl23_LdI) ?_ <;> refine xL 13 q_move ?_ <;> refine aL_end (nav ?_) <;> try dsimp only)
    refine aC_loop (ι := { k : Nat // k ≤ a.length ∧ ∀ j x y, j < k → a[j]? = some x → b[j]? = some y → x = y }) (fun k => ⟨[(0, _, _), (1, _, _), (12, _, _), (13, .int .i64 k.1, pInt k.1)], []⟩) (fun k => a.length - k.1) ⟨0, by omega, by omega⟩ (fun a w H => H.weaken ⟨rfl, rfl, rfl, rfl, trivial⟩ trivial) ?_
    rintro ⟨k, hk, hp⟩
    dsimp only
    refine nav ?_
    (refine aC_region ?_ <;> refine xL 14 q_lss ?_ <;> refine aL_end (nav ?_) <;> try dsimp only)
    (first | refine cCd ?_ ?_ | refine cC ?_ ?_) <;> intro hb14
    · first
      | exact Bool.noConfusion hb14
      | (
       obtain ⟨x, hx⟩ := get_some (show k < a.length by omega)
       obtain ⟨y, hy⟩ := get_some (show k < b.length by omega)
       have e1 := flat_drop cMv_len a k x hx
       have e2 := flat_fit cMv_len hx
       have e3 := flat_drop cMv_len b k y hy
       have e4 := flat_fit cMv_len hy
       refine nav ?_
       (refine aC_region ?_ <;> refine xL 15 q_move ?_ <;> refine xL 5 q_assign ?_ <;> refine aL_end (nav ?_) <;> try dsimp only)
       (refine aC_draw (fun i => ([] : List Nat).elem i) [] (by kernel_rfl) ?_ <;> refine xD 0 16 rfl q_move ?_ <;> refine xD 1 17 rfl q_move ?_ <;> refine xD 2 18 rfl (q_idxN tSl23_LdI) ?_ <;> (refine yD 3 19 rfl (q_lda tAgg72_LdI) fun v19 hv19 => ?_; cases hv19) <;> refine xD 4 20 rfl q_move ?_ <;> refine xE 5 21 rfl q_move ?_ <;> refine xE 6 22 rfl (q_idxN tSl23_LdI) ?_ <;> (refine yE 7 23 rfl (q_lda tAgg72_LdI) fun v23 hv23 => ?_; cases hv23) <;> refine xE 8 24 rfl ((q_neS (us := vMv x) (us' := vMv y) uMvS hMvS gMvS (eqMv_runG x y) rfl rfl)) ?_ <;> refine aD_end (by kernel_rfl) (nav ?_) <;> try dsimp only)
       (first | refine cCd ?_ ?_ | refine cC ?_ ?_) <;> intro hb24
       · first
         | exact Bool.noConfusion hb24
         | (
          refine nav ?_
          (refine aC_region ?_ <;> refine xL 4 q_assign ?_ <;> refine aL_end (nav ?_) <;> try dsimp only)
          refine ret_shr (Tryz.results54) rfl ?_
          rw [decide_eq_false (ne_at hx hy (by
           have h := hb24
           rw [eqM_dec] at h
           simpa using h))])
       · first
         | exact Bool.noConfusion hb24
         | (
          refine nav ?_
          (refine aC_region ?_ <;> refine xL 25 q_add ?_ <;> refine xL 13 q_move ?_ <;> refine aL_end (nav ?_) <;> try dsimp only)
          refine aN_again (
           ⟨k + 1, lt_of_get hx, fun j x' y' hj hx' hy' => by
            by_cases e : j = k
            · subst e; rw [hx] at hx'; rw [hy] at hy'; cases hx'; cases hy'
              have h := hb24
              rw [eqM_dec] at h
              simpa using h
            · exact hp j x' y' (by omega) hx' hy'⟩
           ) (by dsimp only; omega) ⟨rfl, rfl, rfl, rfl, trivial⟩ trivial))
    · first
      | exact Bool.noConfusion hb14
      | (
       refine nav ?_
       (refine aC_region ?_ <;> refine xL 4 q_assign ?_ <;> refine aL_end (nav ?_) <;> try dsimp only)
       refine ret_shr (Tryz.results54) rfl ?_
       rw [decide_eq_true (eq_end hll fun j x y hx hy => hp j x y (by have := lt_of_get hx; omega) hx hy)]))
theorem sEqualFuncInts_e (a b : List (List Int)) : AF Tryz.prog 55 [pIntss a, pIntss b, .fn 32 []] (· = pBool (decide (a = b))) := by
 refine AF.of_body 32 Tryz.func55 rfl Tryz.ntmps55 (Nat.le_of_ble_eq_true rfl) ?_
 intro w0 M0 vs hl hv
 obtain ⟨v0, v1, v2, rfl⟩ := len3 hl
 clear hl hv
 refine aC_slen 0 rfl fun hlen => ?_
 refine aC_slen 1 rfl fun hlen2 => ?_
 refine nav ?_
 (refine aC_region ?_ <;> refine xL 6 q_assign ?_ <;> refine aL_end (nav ?_) <;> try dsimp only)
 (refine aC_region ?_ <;> refine xL 10 q_move ?_ <;> refine xL 11 (q_len tSl28_LdS) ?_ <;> refine xL 12 q_move ?_ <;> refine xL 13 (q_len tSl28_LdS) ?_ <;> refine xL 14 q_neq ?_ <;> refine aL_end (nav ?_) <;> try dsimp only)
 (first | refine cCd ?_ ?_ | refine cC ?_ ?_) <;> intro hb14
 · first
   | exact Bool.noConfusion hb14
   | (
    refine nav ?_
    (refine aC_region ?_ <;> refine xL 6 q_assign ?_ <;> refine aL_end (nav ?_) <;> try dsimp only)
    refine ret_shr (Tryz.results55) rfl ?_
    rw [decide_eq_false (fun e => by subst e; exact hb14 rfl)])
 · first
   | exact Bool.noConfusion hb14
   | (
    have hll : a.length = b.length := by omega
    refine nav ?_
    (refine aC_region ?_ <;> refine xL 15 q_move ?_ <;> refine xL 16 (q_len tSl28_LdS) ?_ <;> refine xL 17 q_move ?_ <;> refine aL_end (nav ?_) <;> try dsimp only)
    refine aC_loop (ι := { k : Nat // k ≤ a.length ∧ ∀ j x y, j < k → a[j]? = some x → b[j]? = some y → x = y }) (fun k => ⟨[(0, _, _), (1, _, _), (2, _, _), (15, _, _), (16, _, _), (17, .int .i64 k.1, pInt k.1)], []⟩) (fun k => a.length - k.1) ⟨0, by omega, by omega⟩ (fun a w H => H.weaken ⟨rfl, rfl, rfl, rfl, rfl, rfl, trivial⟩ trivial) ?_
    rintro ⟨k, hk, hp⟩
    dsimp only
    refine nav ?_
    (refine aC_region ?_ <;> refine xL 18 q_lss ?_ <;> refine aL_end (nav ?_) <;> try dsimp only)
    (first | refine cCd ?_ ?_ | refine cC ?_ ?_) <;> intro hb18
    · first
      | exact Bool.noConfusion hb18
      | (
       obtain ⟨x, hx⟩ := get_some (show k < a.length by omega)
       obtain ⟨y, hy⟩ := get_some (show k < b.length by omega)
       have e1 := map_at (f := pInts) hx
       have e2 := map_at (f := pInts) hy
       refine nav ?_
       (refine aC_region ?_ <;> refine xL 19 q_move ?_ <;> refine xL 20 (q_idxN tSl28_LdS) ?_ <;> (refine yL 21 (q_ld tNa22_LdI) fun v21 hv21 => ?_; cases hv21) <;> refine xL 7 q_assign ?_ <;> refine xL 8 q_assign ?_ <;> refine aL_end (nav ?_) <;> try dsimp only)
       (refine aC_region ?_ <;> refine xL 22 q_move ?_ <;> refine xL 23 q_move ?_ <;> refine xL 24 (q_idxN tSl28_LdS) ?_ <;> (refine yL 25 (q_ld tNa22_LdI) fun v25 hv25 => ?_; cases hv25) <;> refine xL 9 q_assign ?_ <;> refine aL_end (nav ?_) <;> try dsimp only)
       (refine aC_region ?_ <;> refine xL 26 q_move ?_ <;> refine xL 27 q_move ?_ <;> refine xL 28 q_move ?_ <;> (refine cS 29 (callF (f := 32) (ps := []) rfl ⟨_, rfl⟩ (Tryz.call32) rfl (sEqualInt_e x y)) fun v29 hv29 => ?_; cases hv29) <;> refine xL 30 q_not ?_ <;> refine aL_end (nav ?_) <;> try dsimp only)
       (first | refine cCd ?_ ?_ | refine cC ?_ ?_) <;> intro hb30
       · first
         | exact Bool.noConfusion hb30
         | (
          refine nav ?_
          (refine aC_region ?_ <;> refine xL 6 q_assign ?_ <;> refine aL_end (nav ?_) <;> try dsimp only)
          refine ret_shr (Tryz.results55) rfl ?_
          rw [decide_eq_false (ne_at hx hy (by simpa using hb30))])
       · first
         | exact Bool.noConfusion hb30
         | (
          refine nav ?_
          (refine aC_region ?_ <;> refine xL 31 q_add ?_ <;> refine xL 17 q_move ?_ <;> refine aL_end (nav ?_) <;> try dsimp only)
          refine aN_again (
           ⟨k + 1, lt_of_get hx, fun j x' y' hj hx' hy' => by
            by_cases e : j = k
            · subst e; rw [hx] at hx'; rw [hy] at hy'; cases hx'; cases hy'; simpa using hb30
            · exact hp j x' y' (by omega) hx' hy'⟩
           ) (by dsimp only; omega) ⟨rfl, rfl, rfl, rfl, rfl, rfl, trivial⟩ trivial))
    · first
      | exact Bool.noConfusion hb18
      | (
       refine nav ?_
       (refine aC_region ?_ <;> refine xL 6 q_assign ?_ <;> refine aL_end (nav ?_) <;> try dsimp only)
       refine ret_shr (Tryz.results55) rfl ?_
       rw [decide_eq_true (eq_end hll fun j x y hx hy => hp j x y (by have := lt_of_get hx; omega) hx hy)]))
def insI (x : Int) : List Int → List Int
 | [] => [x]
 | y :: l => if x ≤ y then x :: y :: l else y :: insI x l
def srtI : List Int → List Int
 | [] => []
 | x :: l => insI x (srtI l)
theorem insI_perm (x : Int) : ∀ l, (insI x l).Perm (x :: l)
 | [] => .refl _
 | y :: l => by
   unfold insI
   split
   · exact .refl _
   · exact ((insI_perm x l).cons y).trans (.swap _ _ _)
theorem srtI_perm : ∀ l, (srtI l).Perm l
 | [] => .refl _
 | x :: l => (insI_perm x _).trans ((srtI_perm l).cons x)
theorem insI_pw (x : Int) : ∀ l : List Int, l.Pairwise (· ≤ ·) → (insI x l).Pairwise (· ≤ ·)
 | [], _ => by simp [insI]
 | y :: l, h => by
   have h' := List.pairwise_cons.1 h
   unfold insI
   split
   · rename_i hxy
     refine List.pairwise_cons.2 ⟨fun z hz => ?_, h⟩
     rcases List.mem_cons.1 hz with rfl | hz
     · exact hxy
     · exact Int.le_trans hxy (h'.1 z hz)
   · rename_i hxy
     refine List.pairwise_cons.2 ⟨fun z hz => ?_, insI_pw x l h'.2⟩
     rcases List.mem_cons.1 ((insI_perm x l).mem_iff.1 hz) with rfl | hz
     · omega
     · exact h'.1 z hz
theorem srtI_pw : ∀ l, (srtI l).Pairwise (· ≤ ·)
 | [] => .nil
 | x :: l => insI_pw x _ (srtI_pw l)
theorem sorted_ext : ∀ {l m : List Int}, l.Pairwise (· ≤ ·) → m.Pairwise (· ≤ ·) → l.Perm m → l = m
 | [], [], _, _, _ => rfl
 | [], y :: m, _, _, h => by have := h.length_eq; simp at this
 | x :: l, [], _, _, h => by have := h.length_eq; simp at this
 | x :: l, y :: m, hl, hm, h => by
   have hl' := List.pairwise_cons.1 hl
   have hm' := List.pairwise_cons.1 hm
   have h1 : x ≤ y := by
    rcases List.mem_cons.1 (h.mem_iff.2 (List.mem_cons_self ..)) with e | e
    · omega
    · exact hl'.1 y e
   have h2 : y ≤ x := by
    rcases List.mem_cons.1 (h.mem_iff.1 (List.mem_cons_self ..)) with e | e
    · omega
    · exact hm'.1 x e
   obtain rfl : x = y := by omega
   rw [sorted_ext hl'.2 hm'.2 ((List.perm_cons x).1 h)]
def closI (a : Aut) (l : List Int) : List Int := srtI (clAt a l a.n.toNat)
theorem closI_eq (a : Aut) (l : List Int) : closL a l = closI a l := by
 unfold closL closI
 have h1 : ((clAt a l a.n.toNat).mergeSort fun x y => decide (x ≤ y)).Pairwise (fun x y => decide (x ≤ y) = true) := List.pairwise_mergeSort (fun a b c h1 h2 => by simp only [decide_eq_true_eq] at *; omega) (fun a b => by simp only [Bool.or_eq_true, decide_eq_true_eq]; omega) _
 exact sorted_ext (h1.imp fun h => by simpa using h) (srtI_pw _) ((List.mergeSort_perm _ _).trans (srtI_perm _).symm)
def kidI (a : Aut) (far : List Int) (n : Int) (p : Pf) (c : Nat) : List Pf := if (nearL (closI a (leads a c p.2)) far (n - 1)).length = 0 then [] else [(p.1 ++ [(c : Int)], nearL (closI a (leads a c p.2)) far (n - 1))]
def lvI (a : Aut) (far : List Int) (n : Nat) : Nat → List Pf
 | 0 => [([], nearL (closI a a.start) far n)]
 | k + 1 => (lvI a far n k).flatMap fun p => (List.range a.syms.toNat).flatMap (kidI a far ((n : Int) - k) p)
theorem lvI_eq (a : Aut) (n : Nat) : ∀ k, lvP a n k = lvI a (farL a) n k
 | 0 => by rw [lvP, lvI, closI_eq]
 | k + 1 => by
   rw [lvP, lvI, lvI_eq a n k]
   have : ∀ p, kidsP a ((n : Int) - k) p = (List.range a.syms.toNat).flatMap (kidI a (farL a) ((n : Int) - k) p) := fun p => by
    unfold kidsP
    have : kidP a ((n : Int) - k) p = kidI a (farL a) ((n : Int) - k) p := by
     funext c
     unfold kidP kidI nextL
     rw [closI_eq]
    rw [this]
   exact flatMap_ext fun p _ => this p
def sumI (a : Aut) (far : List Int) (n k : Nat) : List (List Int) := (List.range k).flatMap fun i => outP a (lvI a far n i)
theorem sumI_eq (a : Aut) (n k : Nat) : sumP a n k = sumI a (farL a) n k := by
 unfold sumP sumI
 simp only [lvI_eq]
def bigI (a : Aut) (far : List Int) (n : Nat) : Bool := (List.range (n + 1)).any (fun k => decide (2000 < (lvI a far n (k + 1)).length)) || decide (2000 < (sumI a far n (n + 1)).length)
theorem bigI_eq (a : Aut) (n : Nat) : bigP a n ↔ bigI a (farL a) n = true := by
 unfold bigP bigI
 rw [sumI_eq]
 simp only [Bool.or_eq_true, List.any_eq_true, List.mem_range, decide_eq_true_eq, lvI_eq]
 constructor
 · rintro (⟨k, h1, h2⟩ | h)
   · exact .inl ⟨k, by omega, h2⟩
   · exact .inr h
 · rintro (⟨k, h1, h2⟩ | h)
   · exact .inl ⟨k, by omega, h2⟩
   · exact .inr h
def subI (a : Aut) : Srch (List Int) (List Int) := ⟨id, 2000, a.syms.toNat, fun _ l s => closI a (leads a (s : Nat) l)⟩
theorem subI_eq (a : Aut) : subW a = subI a := by
 unfold subW subI
 congr 1
 funext _ l s
 unfold nextL
 rw [closI_eq]
theorem subT_of {a : Aut} {q : List (List Int) × List (List Nat)} (i : Nat) (h : (subI a).upto (closI a a.start) i = some q) (hl : q.1.length ≤ i) (hi : i ≤ 2000) : subT a = some ⟨a.syms.toNat, q.2, q.1.map (accB a)⟩ := by
 unfold subT
 rw [subI_eq, closI_eq, Srch.all_some h hl hi]; rfl
theorem redX_of {a : Aut} {q : List (List Int) × List (List Nat)} {A : Aut} (i : Nat) (h : (subI a).upto (closI a a.start) i = some q) (hl : q.1.length ≤ i) (hi : i ≤ 2000) (hA : leastT ⟨a.syms.toNat, q.2, q.1.map (accB a)⟩ = some A) : redX a = .ok A := by
 unfold redX
 rw [subT_of i h hl hi]
 dsimp only
 rw [hA]; rfl
theorem bothX_of {a b A B : Aut} {q : List ((Nat × Nat) × (Int × Int)) × List (List Nat)} (i : Nat) (ha : redX a = .ok A) (hb : redX b = .ok B) (h : (prodW A B).upto ((0, 0), (-1, -1)) i = some q) (hl : q.1.length ≤ i) (hi : i ≤ 2000) : bothX a b = .ok (A, B, q) := by
 unfold bothX
 rw [ha, hb]
 dsimp only
 rw [show prodQ A B = some q from Srch.all_some h hl hi]
theorem cmpX_of {a b A B : Aut} {q : List ((Nat × Nat) × (Int × Int)) × List (List Nat)} {op : Int} (hf : fitX a b = 0) (h : bothX a b = .ok (A, B, q)) : cmpX a b op = ((cmpR A B op q).1, (cmpR A B op q).2, 0) := by
 unfold cmpX
 rw [if_neg (fun h => h hf), h]
def ex07 : Aut := ⟨2, 2, [0], [1], [⟨0, 0, 0⟩, ⟨0, 0, 1⟩, ⟨0, 1, 1⟩]⟩
def ex07M : Aut := ⟨2, 2, [0], [1], [⟨0, 0, 0⟩, ⟨0, 1, 1⟩, ⟨1, 0, 0⟩, ⟨1, 1, 1⟩]⟩
theorem ex07_ok : autOk ex07 = true := by kernel_rfl
theorem ex07_sub : (subI ex07).upto (closI ex07 ex07.start) 2 = some ([[0], [0, 1]], [[0, 1], [0, 1]]) := by kernel_rfl
theorem ex07_min : leastT ⟨2, [[0, 1], [0, 1]], [false, true]⟩ = some ex07M := by kernel_rfl
theorem ex07_red : redX ex07 = .ok ex07M := redX_of 2 ex07_sub (by decide) (by decide) ex07_min
theorem ex07_minX : minX ex07 = .ok ex07M := by unfold minX; rw [ex07_ok, if_pos rfl, ex07_red]
theorem ex07_subM : (subI ex07M).upto (closI ex07M ex07M.start) 2 = some ([[0], [1]], [[0, 1], [0, 1]]) := by kernel_rfl
theorem ex07_redM : redX ex07M = .ok ex07M := redX_of 2 ex07_subM (by decide) (by decide) ex07_min
theorem tSl75_LfT : SlT Tryz.prog 75 25 5 = true := by kernel_rfl
theorem aut_ext {a b : Aut} (h1 : a.n = b.n) (h2 : a.syms = b.syms) (h3 : a.start = b.start) (h4 : a.fin = b.fin) (h5 : a.moves = b.moves) : a = b := by
 cases a; cases b; simp_all
instance : DecidableEq Aut := fun a b => if h : a.n = b.n ∧ a.syms = b.syms ∧ a.start = b.start ∧ a.fin = b.fin ∧ a.moves = b.moves then .isTrue (aut_ext h.1 h.2.1 h.2.2.1 h.2.2.2.1 h.2.2.2.2) else .isFalse fun e => h (by subst e; exact ⟨rfl, rfl, rfl, rfl, rfl⟩)
set_option maxHeartbeats 1000000 in
theorem r07Same_e (a b : Aut) (hm : a.moves.length ≤ 1000000) (hm' : b.moves.length ≤ 1000000) : AF Tryz.prog 20 [pAut a, pAut b] (· = pBool (decide (a = b))) := by
 refine AF.of_body 61 Tryz.func20 rfl Tryz.ntmps20 (Nat.le_of_ble_eq_true rfl) ?_
 intro w0 M0 vs hl hv
 obtain ⟨v0, v1, rfl⟩ := len2 hl
 clear hl hv
 refine nav ?_
 (refine aC_region ?_ <;> refine s_boxa 2 5 fun h2 => ?_ <;> refine s_boxa 3 5 fun h3 => ?_ <;> refine xL 4 q_assign ?_ <;> refine aL_end (nav ?_) <;> try dsimp only)
 (refine aC_region ?_ <;> refine xL 6 (q_fldo 2 tFl25_0_LdI) ?_ <;> (refine yL 7 (q_ldo 2 tNa3_LbB) fun v7 hv7 => ?_; cases hv7) <;> refine xL 8 (q_fldo 3 tFl25_0_LdI) ?_ <;> (refine yL 9 (q_ldo 3 tNa3_LbB) fun v9 hv9 => ?_; cases hv9) <;> refine xL 10 q_neq ?_ <;> refine xL 11 q_move ?_ <;> (refine bLd 11 (fun hb11 => ?_) (fun hb11 => ?_) <;> (first | refine kL 12 ?_ | refine xL 12 (q_fldo 2 tFl25_1_LdI) ?_)) <;> (first | refine kL 13 ?_ | (refine yL 13 (q_ldo 2 tNa3_LbB) fun v13 hv13 => ?_; cases hv13)) <;> (first | refine kL 14 ?_ | refine xL 14 (q_fldo 3 tFl25_1_LdI) ?_) <;> (first | refine kL 15 ?_ | (refine yL 15 (q_ldo 3 tNa3_LbB) fun v15 hv15 => ?_; cases hv15)) <;> (first | refine kL 16 ?_ | refine xL 16 q_neq ?_) <;> refine xL 17 q_pick ?_ <;> refine xL 18 q_move ?_ <;> (first | refine kL 19 ?_ | (refine bLd 18 (fun hb18 => ?_) (fun hb18 => ?_) <;> (first | refine kL 19 ?_ | refine xL 19 (q_fldo 2 tFl25_2_LdI) ?_))) <;> (first | refine kL 20 ?_ | (refine yL 20 (q_ldo 2 tNa22_LdI) fun v20 hv20 => ?_; cases hv20)) <;> (first | refine kL 21 ?_ | refine xL 21 (q_fldo 3 tFl25_2_LdI) ?_) <;> (first | refine kL 22 ?_ | (refine yL 22 (q_ldo 3 tNa22_LdI) fun v22 hv22 => ?_; cases hv22)) <;> (first | refine kL 23 ?_ | (refine cS 23 (cA Tryz.call69 (r07SameWord_e a.start b.start)) fun v23 hv23 => ?_; cases hv23)) <;> (first | refine kL 24 ?_ | refine xL 24 q_not ?_) <;> refine xL 25 q_pick ?_ <;> refine xL 26 q_move ?_ <;> (first | refine kL 27 ?_ | (refine bL 26 (fun hb26 => ?_) (fun hb26 => ?_) <;> (first | refine kL 27 ?_ | refine xL 27 (q_fldo 2 tFl25_3_LdI) ?_))) <;> (first | refine kL 28 ?_ | (refine yL 28 (q_ldo 2 tNa22_LdI) fun v28 hv28 => ?_; cases hv28)) <;> (first | refine kL 29 ?_ | refine xL 29 (q_fldo 3 tFl25_3_LdI) ?_) <;> (first | refine kL 30 ?_ | (refine yL 30 (q_ldo 3 tNa22_LdI) fun v30 hv30 => ?_; cases hv30)) <;> (first | refine kL 31 ?_ | (refine cS 31 (cA Tryz.call69 (r07SameWord_e a.fin b.fin)) fun v31 hv31 => ?_; cases hv31)) <;> (first | refine kL 32 ?_ | refine xL 32 q_not ?_) <;> refine xL 33 q_pick ?_ <;> refine xL 34 q_move ?_ <;> (first | refine kL 35 ?_ | (refine bL 34 (fun hb34 => ?_) (fun hb34 => ?_) <;> (first | refine kL 35 ?_ | refine xL 35 (q_fldo 2 tFl25_4_LdI) ?_))) <;> (first | refine kL 36 ?_ | (refine yL 36 (q_ldo 2 tNa23_LdI) fun v36 hv36 => ?_; cases hv36)) <;> (first | refine kL 37 ?_ | refine xL 37 (q_len tSl23_LdI) ?_) <;> (first | refine kL 38 ?_ | refine xL 38 (q_fldo 3 tFl25_4_LdI) ?_) <;> (first | refine kL 39 ?_ | (refine yL 39 (q_ldo 3 tNa23_LdI) fun v39 hv39 => ?_; cases hv39)) <;> (first | refine kL 40 ?_ | refine xL 40 (q_len tSl23_LdI) ?_) <;> (first | refine kL 41 ?_ | refine xL 41 q_neq ?_) <;> refine xL 42 q_pick ?_ <;> refine aL_end (nav ?_) <;> try dsimp only) <;> (
  (first | refine cCd ?_ ?_ | refine cC ?_ ?_) <;> intro hb42
  · first
    | exact Bool.noConfusion hb42
    | (
     refine nav ?_
     (refine aC_region ?_ <;> refine xL 4 q_assign ?_ <;> refine aL_end (nav ?_) <;> try dsimp only)
     refine ret_shr (Tryz.results20) rfl ?_
     rw [decide_eq_false (fun e => by
      subst e
      first
       | exact absurd rfl hb42
       | (simp at hb34; done)
       | (simp at hb26; done)
       | exact absurd rfl hb18
       | exact absurd rfl hb11)])
  · first
    | exact Bool.noConfusion hb42
    | (
     have q3 : a.start = b.start := by simpa using hb26
     have q4 : a.fin = b.fin := by simpa using hb34
     have hll : a.moves.length = b.moves.length := by omega
     have q1 : a.n = b.n := by omega
     have q2 : a.syms = b.syms := by omega
     refine nav ?_
     (refine aC_region ?_ <;> refine xL 5 q_assign ?_ <;> refine aL_end (nav ?_) <;> try dsimp only)
     refine aC_loop (ι := { k : Nat // k ≤ a.moves.length ∧ ∀ j x y, j < k → a.moves[j]? = some x → b.moves[j]? = some y → x = y }) (fun k => ⟨[(2, _, _), (3, _, _), (5, .int .i64 k.1, pInt k.1)], [(2, _, _), (3, _, _)]⟩) (fun k => a.moves.length - k.1) ⟨0, Nat.zero_le _, by omega⟩ (fun a w H => H.weaken ⟨rfl, rfl, rfl, trivial⟩ ⟨rfl, rfl, trivial⟩) ?_
     rintro ⟨k, hk, hp⟩
     dsimp only
     refine nav ?_
     (refine aC_region ?_ <;> refine xL 43 q_move ?_ <;> refine xL 44 (q_fldo 2 tFl25_4_LdI) ?_ <;> (refine yL 45 (q_ldo 2 tNa23_LdI) fun v45 hv45 => ?_; cases hv45) <;> refine xL 46 (q_len tSl23_LdI) ?_ <;> refine xL 47 q_lss ?_ <;> refine aL_end (nav ?_) <;> try dsimp only)
     (first | refine cCd ?_ ?_ | refine cC ?_ ?_) <;> intro hb47
     · first
       | exact Bool.noConfusion hb47
       | (
        obtain ⟨x, hx⟩ := get_some (show k < a.moves.length by omega)
        obtain ⟨y, hy⟩ := get_some (show k < b.moves.length by omega)
        have e1 := flat_drop cMv_len a.moves k x hx
        have e2 := flat_fit cMv_len hx
        have e3 := flat_drop cMv_len b.moves k y hy
        have e4 := flat_fit cMv_len hy
        refine nav ?_
        (refine aC_draw (fun i => ([] : List Nat).elem i) [2, 3] (by kernel_rfl) ?_ <;> refine xD 0 50 rfl (q_fldo 2 tFl25_4_LdI) ?_ <;> (refine yD 1 51 rfl (q_ldo 2 tNa23_LdI) fun v51 hv51 => ?_; cases hv51) <;> refine xD 2 52 rfl q_move ?_ <;> refine xD 3 53 rfl (q_idxN tSl23_LdI) ?_ <;> (refine yD 4 54 rfl (q_lda tAgg72_LdI) fun v54 hv54 => ?_; cases hv54) <;> refine xD 5 55 rfl (q_fldo 3 tFl25_4_LdI) ?_ <;> (refine yD 6 56 rfl (q_ldo 3 tNa23_LdI) fun v56 hv56 => ?_; cases hv56) <;> refine xE 7 57 rfl q_move ?_ <;> refine xE 8 58 rfl (q_idxN tSl23_LdI) ?_ <;> (refine yE 9 59 rfl (q_lda tAgg72_LdI) fun v59 hv59 => ?_; cases hv59) <;> refine xE 10 60 rfl ((q_neS (us := vMv x) (us' := vMv y) uMvS hMvS gMvS (eqMv_runG x y) rfl rfl)) ?_ <;> refine aD_end (by kernel_rfl) (nav ?_) <;> try dsimp only)
        (first | refine cCd ?_ ?_ | refine cC ?_ ?_) <;> intro hb60
        · first
          | exact Bool.noConfusion hb60
          | (
           refine nav ?_
           (refine aC_region ?_ <;> refine xL 4 q_assign ?_ <;> refine aL_end (nav ?_) <;> try dsimp only)
           refine ret_shr (Tryz.results20) rfl ?_
           have hne : a.moves ≠ b.moves := ne_at hx hy (by
            have h := hb60
            rw [eqM_dec] at h
            simpa using h)
           rw [decide_eq_false (fun e => hne (by rw [e]))])
        · first
          | exact Bool.noConfusion hb60
          | (
           refine nav ?_
           (refine aC_region ?_ <;> refine xL 48 q_move ?_ <;> refine xL 49 q_add ?_ <;> refine xL 5 q_assign ?_ <;> refine aL_end (nav ?_) <;> try dsimp only)
           refine aN_again (
            ⟨k + 1, lt_of_get hx, fun j x' y' hj hx' hy' => by
             by_cases e : j = k
             · subst e; rw [hx] at hx'; rw [hy] at hy'; cases hx'; cases hy'
               have h := hb60
               rw [eqM_dec] at h
               simpa using h
             · exact hp j x' y' (by omega) hx' hy'⟩
            ) (by dsimp only; omega) ⟨rfl, rfl, rfl, trivial⟩ ⟨rfl, rfl, trivial⟩))
     · first
       | exact Bool.noConfusion hb47
       | (
        refine nav ?_
        (refine aC_region ?_ <;> refine xL 4 q_assign ?_ <;> refine aL_end (nav ?_) <;> try dsimp only)
        refine ret_shr (Tryz.results20) rfl ?_
        rw [decide_eq_true (aut_ext q1 q2 q3 q4 (eq_end hll fun j x y hx hy => hp j x y (by have := lt_of_get hx; omega) hx hy))])))
def cAut (a : Aut) : List PV := [pInt a.n, pInt a.syms, pInts a.start, pInts a.fin, pMvs a.moves]
theorem cAut_len (a : Aut) : (cAut a).length = 5 := rfl
def greatA (a : Aut) : Bool := (decide (60 < a.n) && decide (a.n ≤ 2000)) || (decide (8 < a.syms) && decide (a.syms ≤ 40)) || decide (400 < (a.moves.length : Int)) || decide (80 < (a.start.length : Int)) || decide (80 < (a.fin.length : Int))
theorem indexFuncAut_e (f : Nat) (caps : List PV) (p : Aut → Bool) (l : List Aut) (hc : ∀ args w, (callFunc f args).run Tryz.prog w = .ok (.enter f args) w) (hf : ∀ s ∈ l, AF Tryz.prog f (.agg (cAut s) :: caps) (· = pBool (p s))) : AF Tryz.prog 97 [.sl l.length (l.flatMap cAut), .fn f caps] (· = pInt (idx p l)) := by
 refine AF.of_body 19 Tryz.func97 rfl Tryz.ntmps97 (Nat.le_of_ble_eq_true rfl) ?_
 intro w0 M0 vs hl hv
 obtain ⟨v0, v1, rfl⟩ := len2 hl
 clear hl hv
 refine aC_slen 0 rfl fun hlen => ?_
 refine nav ?_
 (refine aC_region ?_ <;> refine xL 4 q_assign ?_ <;> refine aL_end (nav ?_) <;> try dsimp only)
 (refine aC_region ?_ <;> refine xL 6 q_move ?_ <;> refine xL 7 (q_len tSl75_LfT) ?_ <;> refine xL 8 q_move ?_ <;> refine aL_end (nav ?_) <;> try dsimp only)
 refine aC_loop (ι := { k : Nat // k ≤ l.length ∧ ∀ i y, i < k → l[i]? = some y → p y = false }) (fun k => ⟨[(0, _, _), (1, _, _), (7, _, _), (8, .int .i64 k.1, pInt k.1)], []⟩) (fun k => l.length - k.1) ⟨0, by omega, by omega⟩ (fun a w H => H.weaken ⟨rfl, rfl, rfl, rfl, trivial⟩ trivial) ?_
 rintro ⟨k, hk, hp⟩
 dsimp only
 refine nav ?_
 (refine aC_region ?_ <;> refine xL 9 q_lss ?_ <;> refine aL_end (nav ?_) <;> try dsimp only)
 (first | refine cCd ?_ ?_ | refine cC ?_ ?_) <;> intro hb9
 · first
   | exact Bool.noConfusion hb9
   | (
    obtain ⟨x, hx⟩ := get_some (show k < l.length by omega)
    have e1 := flat_drop cAut_len l k x hx
    have e2 := flat_fit cAut_len hx
    refine nav ?_
    (refine aC_region ?_ <;> refine xL 10 q_move ?_ <;> refine xL 5 q_assign ?_ <;> refine aL_end (nav ?_) <;> try dsimp only)
    (refine aC_region ?_ <;> refine xL 11 q_move ?_ <;> refine xL 12 q_move ?_ <;> refine xL 13 q_move ?_ <;> refine xL 14 (q_idxN tSl75_LfT) ?_ <;> (refine yL 15 (q_lda tAgg25_LdS) fun v15 hv15 => ?_; cases hv15) <;> (refine cS 16 (callF (f := f) (ps := caps) rfl ⟨_, rfl⟩ hc rfl (hf x (List.mem_of_getElem? hx))) fun v16 hv16 => ?_; cases hv16) <;> refine aL_end (nav ?_) <;> try dsimp only)
    (first | refine cCd ?_ ?_ | refine cC ?_ ?_) <;> intro hb16
    · first
      | exact Bool.noConfusion hb16
      | (
       refine nav ?_
       (refine aC_region ?_ <;> refine xL 17 q_move ?_ <;> refine xL 4 q_assign ?_ <;> refine aL_end (nav ?_) <;> try dsimp only)
       refine ret_shr (Tryz.results97) rfl ?_
       rw [idx_here hp hx hb16])
    · first
      | exact Bool.noConfusion hb16
      | (
       refine nav ?_
       (refine aC_region ?_ <;> refine xL 18 q_add ?_ <;> refine xL 8 q_move ?_ <;> refine aL_end (nav ?_) <;> try dsimp only)
       refine aN_again (
        ⟨k + 1, by omega, fun i y hi hy => by
         by_cases e : i = k
         · subst e; rw [hx] at hy; cases hy; exact hb16
         · exact hp i y (by omega) hy⟩
        ) (by dsimp only; omega) ⟨rfl, rfl, rfl, rfl, trivial⟩ trivial))
 · first
   | exact Bool.noConfusion hb9
   | (
    refine nav ?_
    (refine aC_region ?_ <;> refine xL 4 q_assign ?_ <;> refine aL_end (nav ?_) <;> try dsimp only)
    refine ret_shr (Tryz.results97) rfl ?_
    rw [idx_none fun i y hi hy => hp i y (by omega) hy])
theorem containsFuncAut_e (f : Nat) (caps : List PV) (p : Aut → Bool) (l : List Aut) (hc : ∀ args w, (callFunc f args).run Tryz.prog w = .ok (.enter f args) w) (hf : ∀ s ∈ l, AF Tryz.prog f (.agg (cAut s) :: caps) (· = pBool (p s))) : AF Tryz.prog 56 [.sl l.length (l.flatMap cAut), .fn f caps] (· = pBool (l.any p)) := by
 refine AF.of_body 9 Tryz.func56 rfl Tryz.ntmps56 (Nat.le_of_ble_eq_true rfl) ?_
 intro w0 M0 vs hl hv
 obtain ⟨v0, v1, rfl⟩ := len2 hl
 clear hl hv
 refine nav ?_
 (refine aC_region ?_ <;> refine xL 4 q_assign ?_ <;> refine aL_end (nav ?_) <;> try dsimp only)
 (refine aC_region ?_ <;> refine xL 5 q_move ?_ <;> refine xL 6 q_move ?_ <;> (refine cS 7 (cA Tryz.call97 (indexFuncAut_e f caps p l hc hf)) fun v7 hv7 => ?_; cases hv7) <;> refine xL 8 q_geq ?_ <;> refine xL 4 q_assign ?_ <;> refine aL_end (nav ?_) <;> try dsimp only)
 refine ret_shr (Tryz.results56) rfl ?_
 rw [idx_any]
theorem great071_e (a : Aut) : AF Tryz.prog 57 [.agg (cAut a)] (· = pBool (greatA a)) := by
 refine AF.of_body 39 Tryz.func57 rfl Tryz.ntmps57 (Nat.le_of_ble_eq_true rfl) ?_
 intro w0 M0 vs hl hv
 obtain ⟨v0, rfl⟩ := len1 hl
 clear hl hv
 refine nav ?_
 (refine aC_region ?_ <;> refine s_boxa 1 5 fun h1 => ?_ <;> refine xL 2 q_assign ?_ <;> refine aL_end (nav ?_) <;> try dsimp only)
 (refine aC_region ?_ <;> refine xL 3 (q_fldo 1 tFl25_0_LdI) ?_ <;> (refine yL 4 (q_ldo 1 tNa3_LbB) fun v4 hv4 => ?_; cases hv4) <;> refine xL 5 q_gtr ?_ <;> refine xL 6 q_move ?_ <;> (refine bLd 6 (fun hb6 => ?_) (fun hb6 => ?_) <;> (first | refine kL 7 ?_ | refine xL 7 (q_fldo 1 tFl25_0_LdI) ?_)) <;> (first | refine kL 8 ?_ | (refine yL 8 (q_ldo 1 tNa3_LbB) fun v8 hv8 => ?_; cases hv8)) <;> (first | refine kL 9 ?_ | refine xL 9 q_leq ?_) <;> refine xL 10 q_pick ?_ <;> refine xL 11 q_move ?_ <;> (first | refine xL 12 (q_fldo 1 tFl25_1_LdI) ?_ | (refine bLd 11 (fun hb11 => ?_) (fun hb11 => ?_) <;> (first | refine kL 12 ?_ | refine xL 12 (q_fldo 1 tFl25_1_LdI) ?_))) <;> (first | refine kL 13 ?_ | (refine yL 13 (q_ldo 1 tNa3_LbB) fun v13 hv13 => ?_; cases hv13)) <;> (first | refine kL 14 ?_ | refine xL 14 q_gtr ?_) <;> (first | refine kL 15 ?_ | refine xL 15 q_move ?_) <;> (first | refine kL 16 ?_ | (refine bLd 15 (fun hb15 => ?_) (fun hb15 => ?_) <;> (first | refine kL 16 ?_ | refine xL 16 (q_fldo 1 tFl25_1_LdI) ?_))) <;> (first | refine kL 17 ?_ | (refine yL 17 (q_ldo 1 tNa3_LbB) fun v17 hv17 => ?_; cases hv17)) <;> (first | refine kL 18 ?_ | refine xL 18 q_leq ?_) <;> (first | refine kL 19 ?_ | refine xL 19 q_pick ?_) <;> refine xL 20 q_pick ?_ <;> refine xL 21 q_move ?_ <;> (first | refine kL 22 ?_ | refine xL 22 (q_fldo 1 tFl25_4_LdI) ?_ | (refine bLd 21 (fun hb21 => ?_) (fun hb21 => ?_) <;> (first | refine kL 22 ?_ | refine xL 22 (q_fldo 1 tFl25_4_LdI) ?_))) <;> (first | refine kL 23 ?_ | (refine yL 23 (q_ldo 1 tNa23_LdI) fun v23 hv23 => ?_; cases hv23)) <;> (first | refine kL 24 ?_ | refine xL 24 (q_len tSl23_LdI) ?_) <;> (first | refine kL 25 ?_ | refine xL 25 q_gtr ?_) <;> refine xL 26 q_pick ?_ <;> refine xL 27 q_move ?_ <;> (first | refine kL 28 ?_ | (refine bLd 27 (fun hb27 => ?_) (fun hb27 => ?_) <;> (first | refine kL 28 ?_ | refine xL 28 (q_fldo 1 tFl25_2_LdI) ?_))) <;> (first | refine kL 29 ?_ | (refine yL 29 (q_ldo 1 tNa22_LdI) fun v29 hv29 => ?_; cases hv29)) <;> (first | refine kL 30 ?_ | refine xL 30 (q_len tSl22_LbB) ?_) <;> (first | refine kL 31 ?_ | refine xL 31 q_gtr ?_) <;> refine xL 32 q_pick ?_ <;> refine xL 33 q_move ?_ <;> (first | refine kL 34 ?_ | (refine bLd 33 (fun hb33 => ?_) (fun hb33 => ?_) <;> (first | refine kL 34 ?_ | refine xL 34 (q_fldo 1 tFl25_3_LdI) ?_))) <;> (first | refine kL 35 ?_ | (refine yL 35 (q_ldo 1 tNa22_LdI) fun v35 hv35 => ?_; cases hv35)) <;> (first | refine kL 36 ?_ | refine xL 36 (q_len tSl22_LbB) ?_) <;> (first | refine kL 37 ?_ | refine xL 37 q_gtr ?_) <;> refine xL 38 q_pick ?_ <;> refine xL 2 q_assign ?_ <;> refine aL_end (nav ?_) <;> try dsimp only) <;> (
  refine ret_shr (Tryz.results57) rfl ?_
  refine congrArg pBool ?_
  unfold greatA
  clear w0 M0 v0 h1
  first | (simp_all; done) | (simp_all; omega))
theorem great07_e (l : List Aut) : AF Tryz.prog 14 [.sl l.length (l.flatMap cAut)] (· = pBool (l.any greatA)) := by
 refine AF.of_body 5 Tryz.func14 rfl Tryz.ntmps14 (Nat.le_of_ble_eq_true rfl) ?_
 intro w0 M0 vs hl hv
 obtain ⟨v0, rfl⟩ := len1 hl
 clear hl hv
 refine nav ?_
 (refine aC_region ?_ <;> refine xL 2 q_assign ?_ <;> refine aL_end (nav ?_) <;> try dsimp only)
 (refine aC_region ?_ <;> refine xL 3 q_move ?_ <;> (refine cS 4 (cA Tryz.call56 (containsFuncAut_e 57 [] greatA l (Tryz.call57) (fun a _ => great071_e a))) fun v4 hv4 => ?_; cases hv4) <;> refine xL 2 q_assign ?_ <;> refine aL_end (nav ?_) <;> try dsimp only)
 exact ret_shr Tryz.results14 rfl rfl
theorem ends07_e : AF Tryz.prog 53 [] (· = pAut ex07) := by
 refine AF.of_body 8 Tryz.func53 rfl Tryz.ntmps53 (Nat.le_of_ble_eq_true rfl) ?_
 intro w0 M0 vs hl hv
 obtain rfl := List.eq_nil_of_length_eq_zero hl
 clear hl hv
 refine nav ?_
 (refine aC_region ?_ <;> refine s_alloc [(.int .i64 0), (.int .i64 0), (.slice none 0 0), (.slice none 0 0), (.slice none 0 0)] 5 0 tZr25_LfD fun h0 => ?_ <;> refine aL_end (nav ?_) <;> try dsimp only)
 (refine aC_region ?_ <;> (refine s_lit1 (kk := 1) 1 tEl22_LdI fun h1 ho1 => ?_; refine aL_ent (En.freeze (l := 1) (t := 1) rfl rfl) fun _ => ?_; refine aL_ent (reslot (t := 1) (p' := pInts [0]) rfl rfl) fun _ => ?_) <;> (refine s_lit1 (kk := 1) 2 tEl22_LdI fun h2 ho2 => ?_; refine aL_ent (En.freeze (l := 2) (t := 2) rfl rfl) fun _ => ?_; refine aL_ent (reslot (t := 2) (p' := pInts [1]) rfl rfl) fun _ => ?_) <;> refine xL 3 (q_build tSt72_LfD) ?_ <;> refine xL 4 (q_build tSt72_LfD) ?_ <;> refine xL 5 (q_build tSt72_LfD) ?_ <;> (refine s_lita (kk := 3) (xs := [_, _, _]) (cs := [[_, _, _], [_, _, _], [_, _, _]]) 6 tEl23_LdR fun h6 ho6 => ?_; refine aL_ent (En.freeze (l := 6) (t := 6) rfl rfl) fun _ => ?_; refine aL_ent (reslot (t := 6) (p' := pMvs ex07.moves) rfl rfl) fun _ => ?_) <;> refine xL 7 (q_build tSt25_LfD) ?_ <;> refine s_sta 0 tAgg25_LdS ?_ <;> refine aL_end (nav ?_) <;> try dsimp only)
 exact ret_cell (k := 5) 0 (by kernel_rfl) (Tryz.results53) rfl rfl (Nat.le_of_ble_eq_true rfl) (by decide) rfl rfl
def ex07S : Aut := ⟨2, 2, [0], [0], [⟨0, 1, 0⟩, ⟨0, 0, 1⟩, ⟨1, 1, 0⟩, ⟨1, 0, 1⟩]⟩
theorem ex07_subS : (subI (mkA (starA ex07))).upto (closI (mkA (starA ex07)) (mkA (starA ex07)).start) 3 = some ([[0, 2], [0], [0, 1, 2]], [[1, 2], [1, 2], [1, 2]]) := by kernel_rfl
theorem ex07_minS : leastT ⟨2, [[1, 2], [1, 2], [1, 2]], [true, false, true]⟩ = some ex07S := by kernel_rfl
theorem ex07_redS : redX (mkA (starA ex07)) = .ok ex07S := redX_of 3 ex07_subS (by decide) (by decide) ex07_minS
theorem ex07_star : starX ex07 = .ok ex07S := by
 unfold starX madeX redL
 rw [ex07_ok, if_pos rfl, if_neg (by show ¬ (2000 < ((2 : Int) + 1) ∨ 20000 < (mkM (starA ex07).moves).length); rw [show (mkM (starA ex07).moves).length = 5 by kernel_rfl]; omega)]
 exact ex07_redS
theorem ex07_subS2 : (subI ex07S).upto (closI ex07S ex07S.start) 2 = some ([[0], [1]], [[1, 0], [1, 0]]) := by kernel_rfl
theorem ex07_minS2 : leastT ⟨2, [[1, 0], [1, 0]], [true, false]⟩ = some ex07S := by kernel_rfl
theorem ex07_redS2 : redX ex07S = .ok ex07S := redX_of 2 ex07_subS2 (by decide) (by decide) ex07_minS2
theorem ex07_prodS : (prodW ex07M ex07S).upto ((0, 0), (-1, -1)) 3 = some ([((0, 0), (-1, -1)), ((0, 1), (0, 0)), ((1, 0), (0, 1))], [[1, 2], [1, 2], [1, 2]]) := by kernel_rfl
theorem ex07_cmpS : cmpX ex07 ex07S 4 = (false, [], 0) := (cmpX_of (by kernel_rfl) (bothX_of 3 ex07_red ex07_redS2 ex07_prodS (by decide) (by decide))).trans (by kernel_rfl)
theorem ex07_prodM : (prodW ex07M ex07M).upto ((0, 0), (-1, -1)) 2 = some ([((0, 0), (-1, -1)), ((1, 1), (0, 1))], [[0, 1], [0, 1]]) := by kernel_rfl
theorem ex07_cmpM : cmpX ex07 ex07M 4 = (true, [], 0) := (cmpX_of (by kernel_rfl) (bothX_of 2 ex07_red ex07_redM ex07_prodM (by decide) (by decide))).trans (by kernel_rfl)
theorem ex07_far : farL ex07 = [1, 0] := by kernel_rfl
theorem ex07_big : bigI ex07 [1, 0] 2 = false := by kernel_rfl
theorem ex07_sum : sumI ex07 [1, 0] 2 3 = [[1], [0, 1], [1, 1]] := by kernel_rfl
theorem ex07_words : AF Tryz.prog 15 [pAut ex07, pInt 2] (· = .tup [pIntss [[1], [0, 1], [1, 1]], pInt 0]) := (aWords_e ex07 2).mono fun p hp => by
 rcases hp with ⟨h, _⟩ | ⟨_, h, _⟩ | ⟨_, _, _, h, _⟩ | ⟨_, _, _, _, h⟩
 · rw [ex07_ok] at h; cases h
 · omega
 · rw [bigI_eq, ex07_far, show (2 : Int).toNat = 2 from rfl, ex07_big] at h; cases h
 · rw [h, sumI_eq, ex07_far, show (2 : Int).toNat = 2 from rfl, ex07_sum]
theorem ex07_minE : AF Tryz.prog 26 [pAut ex07] (· = .tup [pAut ex07M, pInt 0]) := by
 have := aMinimalW_e ex07
 rw [ex07_minX] at this; exact this
theorem ex07_starE : AF Tryz.prog 44 [pAut ex07] (· = .tup [pAut ex07S, pInt 0]) := by
 have := aStar_e ex07
 rw [ex07_star] at this; exact this
theorem ex07_eqS : AF Tryz.prog 33 [pAut ex07, pAut ex07S] (· = .tup [pBool false, pInts [], pInt 0]) := by
 have := aEquivalent_e ex07 ex07S
 rw [ex07_cmpS] at this; exact this
theorem ex07_eqM : AF Tryz.prog 33 [pAut ex07, pAut ex07M] (· = .tup [pBool true, pInts [], pInt 0]) := by
 have := aEquivalent_e ex07 ex07M
 rw [ex07_cmpM] at this; exact this
set_option maxHeartbeats 2000000 in
theorem awake07_e : AF Tryz.prog 13 [] (· = pBool true) := by
 refine AF.of_body 94 Tryz.func13 rfl Tryz.ntmps13 (Nat.le_of_ble_eq_true rfl) ?_
 intro w0 M0 vs hl hv
 obtain rfl := List.eq_nil_of_length_eq_zero hl
 clear hl hv
 refine nav ?_
 (refine aC_region ?_ <;> refine xL 0 q_assign ?_ <;> refine aL_end (nav ?_) <;> try dsimp only)
 (refine aC_region ?_ <;> (refine cD 15 (cA Tryz.call53 (ends07_e)) fun v15 hv15 => ?_; clear hv15) <;> refine s_alloc [(.int .i64 0), (.int .i64 0), (.slice none 0 0), (.slice none 0 0), (.slice none 0 0)] 5 1 tZr25_LfD fun h1 => ?_ <;> refine s_sta 1 tAgg25_LdS ?_ <;> refine aL_end (nav ?_) <;> try dsimp only)
 (refine aC_region ?_ <;> (refine yL 17 (q_ldao 1 tAgg25_LdS) fun v17 hv17 => ?_; cases hv17) <;> (refine cP 18 (cA Tryz.call26 (ex07_minE)) fun va18 vb18 hva18 hvb18 => ?_; cases hvb18) <;> refine xL 16 q_move ?_ <;> refine xL 19 q_extract ?_ <;> refine xL 20 q_extract ?_ <;> refine s_alloc [(.int .i64 0), (.int .i64 0), (.slice none 0 0), (.slice none 0 0), (.slice none 0 0)] 5 2 tZr25_LfD fun h2 => ?_ <;> refine s_sta 2 tAgg25_LdS ?_ <;> refine xL 3 q_assign ?_ <;> refine aL_end (nav ?_) <;> try dsimp only)
 (refine aC_region ?_ <;> (refine yL 22 (q_ldao 1 tAgg25_LdS) fun v22 hv22 => ?_; cases hv22) <;> (refine cP 23 (cA Tryz.call15 (ex07_words)) fun va23 vb23 hva23 hvb23 => ?_; cases hvb23) <;> refine xL 21 q_move ?_ <;> refine xL 24 q_extract ?_ <;> refine xL 25 q_extract ?_ <;> refine xL 4 q_assign ?_ <;> refine xL 5 q_assign ?_ <;> refine aL_end (nav ?_) <;> try dsimp only)
 (refine aC_region ?_ <;> (refine yL 27 (q_ldao 1 tAgg25_LdS) fun v27 hv27 => ?_; cases hv27) <;> (refine cP 28 (cA Tryz.call44 (ex07_starE)) fun va28 vb28 hva28 hvb28 => ?_; cases hvb28) <;> refine xL 26 q_move ?_ <;> refine xL 29 q_extract ?_ <;> refine xL 30 q_extract ?_ <;> refine s_alloc [(.int .i64 0), (.int .i64 0), (.slice none 0 0), (.slice none 0 0), (.slice none 0 0)] 5 6 tZr25_LfD fun h6 => ?_ <;> refine s_sta 6 tAgg25_LdS ?_ <;> refine xL 7 q_assign ?_ <;> refine aL_end (nav ?_) <;> try dsimp only)
 (refine aC_region ?_ <;> (refine yL 32 (q_ldao 1 tAgg25_LdS) fun v32 hv32 => ?_; cases hv32) <;> (refine yL 33 (q_ldao 6 tAgg25_LdS) fun v33 hv33 => ?_; cases hv33) <;> (refine cPx3 34 (cA Tryz.call33 ex07_eqS) fun va34 vb34 vc34 hva34 hvb34 hvc34 => ?_; cases hva34; cases hvc34) <;> refine xL 31 q_move ?_ <;> refine xL 35 q_extract ?_ <;> refine xL 36 q_extract ?_ <;> refine xL 37 q_extract ?_ <;> refine xL 8 q_assign ?_ <;> refine xL 9 q_assign ?_ <;> refine xL 10 q_assign ?_ <;> refine aL_end (nav ?_) <;> try dsimp only)
 (refine aC_region ?_ <;> (refine yL 39 (q_ldao 1 tAgg25_LdS) fun v39 hv39 => ?_; cases hv39) <;> (refine yL 40 (q_ldao 2 tAgg25_LdS) fun v40 hv40 => ?_; cases hv40) <;> (refine cPx3 41 (cA Tryz.call33 ex07_eqM) fun va41 vb41 vc41 hva41 hvb41 hvc41 => ?_; cases hva41; cases hvc41) <;> refine xL 38 q_move ?_ <;> refine xL 42 q_extract ?_ <;> refine xL 43 q_extract ?_ <;> refine xL 44 q_extract ?_ <;> refine xL 11 q_assign ?_ <;> refine xL 12 q_assign ?_ <;> refine xL 13 q_assign ?_ <;> refine aL_end (nav ?_) <;> try dsimp only)
 (refine aC_region ?_ <;> refine xL 45 (q_build tSt72_LfD) ?_ <;> refine xL 46 (q_build tSt72_LfD) ?_ <;> refine xL 47 (q_build tSt72_LfD) ?_ <;> refine xL 48 (q_build tSt72_LfD) ?_ <;> (refine s_lita (kk := 3) (xs := [_, _, _, _]) (cs := [[_, _, _], [_, _, _], [_, _, _], [_, _, _]]) 49 tEl23_LdR fun h49 ho49 => ?_; refine aL_ent (En.freeze (l := 49) (t := 49) rfl rfl) fun _ => ?_; refine aL_ent (reslot (t := 49) (p' := pMvs ex07M.moves) rfl rfl) fun _ => ?_) <;> refine xL 14 q_assign ?_ <;> refine aL_end (nav ?_) <;> try dsimp only)
 (refine aC_region ?_ <;> refine xL 50 q_move ?_ <;> refine xL 51 q_eql ?_ <;> refine xL 52 q_move ?_ <;> refine xL 53 (q_fldo 2 tFl25_4_LdI) ?_ <;> (refine yL 54 (q_ldo 2 tNa23_LdI) fun v54 hv54 => ?_; cases hv54) <;> refine xL 55 q_move ?_ <;> (refine cS 56 (cA Tryz.call54 ((sEqualMv_e ex07M.moves ex07M.moves).mono (R' := (· = pBool true)) fun p hp => by rw [hp]; rfl)) fun v56 hv56 => ?_; cases hv56) <;> refine xL 57 q_pick ?_ <;> refine xL 58 q_move ?_ <;> refine xL 59 q_move ?_ <;> refine xL 60 q_eql ?_ <;> refine xL 61 q_pick ?_ <;> refine xL 62 q_move ?_ <;> refine xL 63 q_move ?_ <;> (refine s_lit1 (kk := 1) 64 tEl22_LdI fun h64 ho64 => ?_; refine aL_ent (En.freeze (l := 64) (t := 64) rfl rfl) fun _ => ?_; refine aL_ent (reslot (t := 64) (p' := pInts [1]) rfl rfl) fun _ => ?_) <;> (refine s_litn (xs := [_, _]) 65 tEl22_LdI fun h65 ho65 => ?_; refine aL_ent (En.freeze (l := 65) (t := 65) rfl rfl) fun _ => ?_; refine aL_ent (reslot (t := 65) (p' := pInts [0, 1]) rfl rfl) fun _ => ?_) <;> (refine s_litn (xs := [_, _]) 66 tEl22_LdI fun h66 ho66 => ?_; refine aL_ent (En.freeze (l := 66) (t := 66) rfl rfl) fun _ => ?_; refine aL_ent (reslot (t := 66) (p' := pInts [1, 1]) rfl rfl) fun _ => ?_) <;> (refine s_litn (xs := [_, _, _]) 67 tEl28_LdS fun h67 ho67 => ?_; refine aL_ent (En.freeze (l := 67) (t := 67) rfl rfl) fun _ => ?_; refine aL_ent (reslot (t := 67) (p' := pIntss [[1], [0, 1], [1, 1]]) rfl rfl) fun _ => ?_) <;> (refine cS 68 (cA Tryz.call55 ((sEqualFuncInts_e [[1], [0, 1], [1, 1]] [[1], [0, 1], [1, 1]]).mono (R' := (· = pBool true)) fun p hp => by rw [hp]; rfl)) fun v68 hv68 => ?_; cases hv68) <;> refine xL 69 q_pick ?_ <;> refine xL 70 q_move ?_ <;> refine xL 71 q_move ?_ <;> refine xL 72 q_eql ?_ <;> refine xL 73 q_pick ?_ <;> refine xL 74 q_move ?_ <;> refine xL 75 q_move ?_ <;> refine xL 76 q_eql ?_ <;> refine xL 77 q_pick ?_ <;> refine xL 78 q_move ?_ <;> refine xL 79 q_move ?_ <;> refine xL 80 q_not ?_ <;> refine xL 81 q_pick ?_ <;> refine xL 82 q_move ?_ <;> refine xL 83 q_move ?_ <;> refine xL 84 (q_len tSl22_LbB) ?_ <;> refine xL 85 q_eql ?_ <;> refine xL 86 q_pick ?_ <;> refine xL 87 q_move ?_ <;> refine xL 88 q_move ?_ <;> refine xL 89 q_eql ?_ <;> refine xL 90 q_pick ?_ <;> refine xL 91 q_move ?_ <;> refine xL 92 q_move ?_ <;> refine xL 93 q_pick ?_ <;> refine xL 0 q_assign ?_ <;> refine aL_end (nav ?_) <;> try dsimp only) <;> (
  refine ret_shr (Tryz.results13) rfl rfl)
end Go.Proofs.YtgigclnaicbiaaaGreatDoor
namespace Go.En
open Go.RowKit Go.Cb Go.WideShapes Go.ChangeShapes Go.ChangeAt Go.Deep
set_option linter.all false
theorem weightsAll_mem {H : Type} (P : Program) (e : TypeId) {d : DataW H} {n : Nat} : ∀ {l : List (DataW H)}, d ∈ l → n ∈ d.weights P e → n ∈ DataW.weightsAll P e l
 | x :: l, h, hn => by
   rw [DataW.weightsAll, List.mem_append]
   rcases List.mem_cons.1 h with rfl | h
   · exact .inl hn
   · exact .inr (weightsAll_mem P e h hn)
theorem weightsEach_mem {H : Type} (P : Program) {d : DataW H} {t : TypeId} {n : Nat} : ∀ {ts : List TypeId} {l : List (DataW H)} (i : Nat), ts[i]? = some t → l[i]? = some d → n ∈ d.weights P t → n ∈ DataW.weightsEach P ts l
 | t' :: ts, x :: l, 0, h1, h2, hn => by
   simp at h1 h2
   subst h1 h2
   rw [DataW.weightsEach, List.mem_append]
   exact .inl hn
 | t' :: ts, x :: l, i + 1, h1, h2, hn => by
   rw [DataW.weightsEach, List.mem_append]
   exact .inr (weightsEach_mem P i (by simpa using h1) (by simpa using h2) hn)
structure Dec (P : Program) (t : TypeId) (k : Nat) {α : Type} (enc : α → List PV) (fit : α → Prop) : Prop where
 size : P.cellsOf t = k
 len : ∀ a, (enc a).length = k
 dec : ∀ {H : Type} (e : TypeId × Value → H) (w : World) (spare : Nat → Bool) (held : Bool) (fuel : Nat) (cs : List Value) (x : DataW H × List MemPlace), DataW.trod e P w 0 spare held fuel t cs = some x → (∀ n ∈ x.1.weights P t, n ≤ reachBytes) →
  ∃ a, fit a ∧ cs.length = k ∧ ∀ (i : Nat) (v : Value) (p : PV), cs[i]? = some v → (enc a)[i]? = some p → Shr (fun _ => False) w v p
section
variable {P : Program} {t : TypeId}
theorem one_at {v u : Value} {p q : PV} {w : World} (h : Shr (fun _ => False) w v p) (i : Nat) (h1 : [v][i]? = some u) (h2 : [p][i]? = some q) : Shr (fun _ => False) w u q := by
 cases i with
 | zero => simp at h1 h2; subst h1 h2; exact h
 | succ i => simp at h1
theorem dec_int (ht : P.underlying t = some (.int .i64)) (hs : P.cellsOf t = 1) : Dec P t 1 (fun n : Int => [pInt n]) (fun n => -9223372036854775808 ≤ n ∧ n ≤ 9223372036854775807) where
 size := hs
 len := fun _ => rfl
 dec := fun e w spare held fuel cs x h => by
  intro hwt
  obtain ⟨n, rfl, _, hw⟩ := DataW.trod_int ht h
  refine ⟨n, ?_, rfl, fun i v p h1 h2 => one_at (.val _) i h1 h2⟩
  simpa [Lit.wf, IntKind.min, IntKind.max, IntKind.signed, IntKind.bits] using hw
theorem dec_slice {α : Type} {e k : Nat} {enc : α → List PV} {fit : α → Prop} (ht : P.underlying t = some (.slice e)) (hs : P.cellsOf t = 1) (hk : 0 < k) (hby : 0 < P.bytesOf e) (D : Dec P e k enc fit) :
 Dec P t 1 (fun l : List α => [PV.sl l.length (l.flatMap enc)]) (fun l => l.length ≤ 140737488355328 ∧ ∀ x ∈ l, fit x) where
 size := hs
 len := fun _ => rfl
 dec := fun en w spare held fuel cs x h => by
  intro hwt
  rcases open_slice ht h with ⟨rfl, _⟩ | ⟨a, len, cap, m, n, Dt, Pl, rfl, _, hl, hm, hmm, rfl, hx⟩
  · exact ⟨[], ⟨by simp, by simp⟩, rfl, fun i v p h1 h2 => one_at (.emp none 0 (by unfold maxLen; omega) (fun _ => rfl)) i h1 h2⟩
  · rcases Nat.eq_zero_or_pos len with h0 | h0
    · subst h0
      exact ⟨[], ⟨by simp, by simp⟩, rfl, fun i v p h1 h2 => one_at (.emp (some a) cap hm (fun h => by cases h)) i h1 h2⟩
    have hlm : len ≤ m := by rw [hmm]; split <;> omega
    simp only [DataW.weights, ht] at hwt
    have hlen : len ≤ reachBytes := by
     have := hwt _ (List.mem_cons_self ..)
     simp only [List.length_map, List.length_range] at this
     exact Nat.le_trans (Nat.le_trans (Nat.le_add_right len _) (Nat.le_mul_of_pos_right _ hby)) this
    have hwi : ∀ i, i < len → ∀ n ∈ (Dt i).weights P e, n ≤ reachBytes := fun i hi n hn => hwt n (List.mem_cons_of_mem _ (List.mem_append.2 (.inl (weightsAll_mem P e (List.mem_map.2 ⟨i, by simpa using hi, rfl⟩) hn))))
    have key : ∀ i : Nat, ∃ (y : α × (Nat → Value)), i < len → fit y.1 ∧ ∀ (j : Nat) (p : PV), (enc y.1)[j]? = some p → w.cell? ((a.add (i * k)).add j) = some (y.2 j) ∧ Shr (fun _ => False) w (y.2 j) p := fun i => by
     obtain ⟨cs0, h10, h20⟩ := hx 0 (by omega)
     obtain ⟨y0, _⟩ := D.dec en w spare held n cs0 _ h20 (hwi 0 h0)
     by_cases hi : i < len
     · obtain ⟨cs', h1, h2⟩ := hx i (by omega)
       rw [D.size] at h1
       obtain ⟨_, hlen, hcell⟩ := World.cells?_some h1
       obtain ⟨y, hy, _, hS⟩ := D.dec en w spare held n cs' _ h2 (hwi i hi)
       refine ⟨(y, fun j => (cs'[j]?).getD undef), fun _ => ⟨hy, fun j p hp => ?_⟩⟩
       have hj : j < k := by rw [← D.len y]; exact lt_of_get hp
       obtain ⟨u, hu⟩ := get_of_lt (show j < cs'.length by omega)
       have := hcell j hj
       simp only [hu, Option.getD_some]
       exact ⟨by rw [this, hu], hS j u p hu hp⟩
     · exact ⟨(y0, fun _ => undef), fun h => absurd h hi⟩
    obtain ⟨Y, hY⟩ := Classical.skolem.1 key
    have hspot : ∃ b off, a = ⟨b, off, none⟩ := by
     obtain ⟨hf, hc⟩ := hY 0 h0
     obtain ⟨p, hp⟩ := get_of_lt (show 0 < (enc (Y 0).1).length by rw [D.len]; exact hk)
     have := (hc 0 p hp).1
     obtain ⟨b, off, spot⟩ := a
     have hspot : spot = none := by simpa [Addr.add] using World.cell?_spot this
     subst hspot
     exact ⟨b, off, rfl⟩
    obtain ⟨b, off, rfl⟩ := hspot
    have hflen : ((List.range len).map fun i => (Y i).1).length = len := by simp
    refine ⟨(List.range len).map fun i => (Y i).1, ⟨by rw [hflen]; unfold reachBytes at hlen; omega, fun x hx => ?_⟩, rfl, fun i v p h1 h2 => one_at ?_ i h1 h2⟩
    · obtain ⟨i, hi, rfl⟩ := List.mem_map.1 hx
      exact (hY i (by simpa using hi)).1
    · rw [hflen]
      have hat : ∀ (c : Nat) (p : PV), (((List.range len).map fun i => (Y i).1).flatMap enc)[c]? = some p → c / k < len ∧ (enc (Y (c / k)).1)[c % k]? = some p := fun c p hp => by
       have hc : c < len * k := by have := lt_of_get hp; rw [flat_len D.len, hflen] at this; exact this
       have hq : c / k < len := Nat.div_lt_of_lt_mul (by rw [Nat.mul_comm]; exact hc)
       have hget : ((List.range len).map fun i => (Y i).1)[c / k]? = some (Y (c / k)).1 := by simp [hq]
       have := flat_at D.len hget (Nat.mod_lt c hk)
       rw [Nat.mul_comm, Nat.div_add_mod] at this
       exact ⟨hq, by rw [← this]; exact hp⟩
      refine .sl b off len cap _ (fun c => (Y (c / k)).2 (c % k)) hl hm (fun c hc => ⟨?_, fun h => h⟩) (fun c p hp => ?_)
      · obtain ⟨p, hp⟩ := get_of_lt hc
        obtain ⟨hq, hp'⟩ := hat c p hp
        have := ((hY (c / k) hq).2 (c % k) p hp').1
        rw [add_none, add_none, Nat.add_assoc, Nat.mul_comm, Nat.div_add_mod] at this
        exact this
      · obtain ⟨hq, hp'⟩ := hat c p hp
        exact ((hY (c / k) hq).2 (c % k) p hp').2
theorem dec_field {H : Type} {α : Type} {e k o : Nat} {enc : α → List PV} {fit : α → Prop} (D : Dec P e k enc fit) {en : TypeId × Value → H} {w : World} {spare : Nat → Bool} {held : Bool} {n : Nat} {cs : List Value} {y : DataW H × List MemPlace}
 (h : DataW.trod en P w 0 spare held n e ((cs.drop o).take (P.cellsOf e)) = some y) (hwt : ∀ n ∈ y.1.weights P e, n ≤ reachBytes) : ∃ a, fit a ∧ ∀ (i : Nat) (v : Value) (p : PV), cs[o + i]? = some v → (enc a)[i]? = some p → Shr (fun _ => False) w v p := by
 obtain ⟨a, h1, _, h3⟩ := D.dec en w spare held n _ y h hwt
 refine ⟨a, h1, fun i v p hv hp => h3 i v p ?_ hp⟩
 have hi : i < k := by rw [← D.len a]; exact lt_of_get hp
 rw [D.size, List.getElem?_take_of_lt hi, List.getElem?_drop]; exact hv
theorem dec_map {α β : Type} {k : Nat} {enc : α → List PV} {enc' : β → List PV} {fit : α → Prop} {fit' : β → Prop} (g : α → β) (D : Dec P t k enc fit) (hl : ∀ b, (enc' b).length = k) (he : ∀ a, enc' (g a) = enc a) (h : ∀ a, fit a → fit' (g a)) : Dec P t k enc' fit' :=
 ⟨D.size, hl, fun e w s hd f cs x hx hy => let ⟨a, h1, h2, h3⟩ := D.dec e w s hd f cs x hx hy; ⟨g a, h a h1, h2, by rw [he]; exact h3⟩⟩
theorem split_at {cs : List Value} {A B : List PV} {k : Nat} {w : World} (hA : A.length = k) (h1 : ∀ (i : Nat) (v : Value) (p : PV), cs[i]? = some v → A[i]? = some p → Shr (fun _ => False) w v p)
 (h2 : ∀ (i : Nat) (v : Value) (p : PV), cs[k + i]? = some v → B[i]? = some p → Shr (fun _ => False) w v p) (i : Nat) (v : Value) (p : PV) (hv : cs[i]? = some v) (hp : (A ++ B)[i]? = some p) : Shr (fun _ => False) w v p := by
 rcases Nat.lt_or_ge i k with h | h
 · rw [List.getElem?_append_left (by omega)] at hp; exact h1 i v p hv hp
 · rw [List.getElem?_append_right (by omega)] at hp
   exact h2 (i - k) v p (by rw [Nat.add_sub_cancel' h]; exact hv) (by rw [← hA]; exact hp)
theorem dec_struct3 {α β γ : Type} {f0 f1 f2 : Field} {k0 k1 k2 : Nat} {enc0 : α → List PV} {enc1 : β → List PV} {enc2 : γ → List PV} {fit0 : α → Prop} {fit1 : β → Prop} {fit2 : γ → Prop} (ht : P.underlying t = some (.struct #[f0, f1, f2])) (hs : P.cellsOf t = k0 + k1 + k2)
 (D0 : Dec P f0.type k0 enc0 fit0) (D1 : Dec P f1.type k1 enc1 fit1) (D2 : Dec P f2.type k2 enc2 fit2) (ho0 : f0.offset = 0) (ho1 : f1.offset = k0) (ho2 : f2.offset = k0 + k1) :
 Dec P t (k0 + k1 + k2) (fun x : α × β × γ => enc0 x.1 ++ (enc1 x.2.1 ++ enc2 x.2.2)) (fun x => fit0 x.1 ∧ fit1 x.2.1 ∧ fit2 x.2.2) where
 size := hs
 len := fun x => by rw [List.length_append, List.length_append, D0.len, D1.len, D2.len]; omega
 dec := fun e w spare held fuel cs x h => by
  intro hwt
  obtain ⟨xs, n, _, rfl, hlen, hxl, hf⟩ := DataW.trod_struct ht h
  simp only [DataW.weights, ht] at hwt
  have g0 := hf 0 f0 rfl
  have g1 := hf 1 f1 rfl
  have g2 := hf 2 f2 rfl
  match xs, hxl with
  | [y0, y1, y2], _ =>
  rw [ho0] at g0
  rw [ho1] at g1
  rw [ho2] at g2
  obtain ⟨a, ha, A⟩ := dec_field D0 g0 (fun n hn => hwt n (weightsEach_mem P 0 (by simp) (by simp) hn))
  obtain ⟨b, hb, B⟩ := dec_field D1 g1 (fun n hn => hwt n (weightsEach_mem P 1 (by simp) (by simp) hn))
  obtain ⟨c, hc, C⟩ := dec_field D2 g2 (fun n hn => hwt n (weightsEach_mem P 2 (by simp) (by simp) hn))
  refine ⟨(a, b, c), ⟨ha, hb, hc⟩, by rw [hlen, hs], split_at (D0.len a) (fun i v p hv hp => A i v p (by rw [Nat.zero_add]; exact hv) hp) fun i v p hv hp => ?_⟩
  exact split_at (cs := cs.drop k0) (D1.len b) (fun i v p hv hp => B i v p (by rw [List.getElem?_drop] at hv; exact hv) hp) (fun i v p hv hp => C i v p (by rw [List.getElem?_drop, ← Nat.add_assoc] at hv; exact hv) hp) i v p (by rw [List.getElem?_drop]; exact hv) hp
section
variable {H : Type} {en : TypeId × Value → H} {w : World} {spare : Nat → Bool} {held : Bool} {r : Reach} {base : Nat} {v : Value} {d : DataW H} {ps : List MemPlace}
theorem okWide_one (hT : NoAgg P t = true) (h : Value.okWide P w r base t v) : v.cells = #[v] := by
 unfold NoAgg at hT
 unfold Value.okWide at h
 cases v <;> first | rfl | skip
 rename_i cs
 exfalso
 cases hu : P.underlying t with
 | none => rw [hu] at hT; simp at hT
 | some dd =>
   rw [hu] at hT h
   cases dd <;> simp_all [Cell.okWide, Cell.ok]
theorem arg1 {α : Type} {f : α → PV} {fit : α → Prop} (D : Dec P t 1 (fun a => [f a]) fit) (hT : NoAgg P t = true) (hv : Value.okWide P w r base t v) (h : DataW.Trod en P w 0 spare held t v d ps) (hwt : ∀ n ∈ d.weights P t, n ≤ reachBytes) : ∃ a, fit a ∧ Shr (fun _ => False) w v (f a) := by
 obtain ⟨fuel, hf⟩ := h
 rw [okWide_one hT hv] at hf
 obtain ⟨a, h1, _, h3⟩ := D.dec en w spare held fuel _ _ hf hwt
 exact ⟨a, h1, h3 0 v (f a) rfl rfl⟩
theorem argA {α : Type} {k : Nat} {enc : α → List PV} {fit : α → Prop} (D : Dec P t k enc fit) (hT : StrT P t = true) (hv : Value.okWide P w r base t v) (h : DataW.Trod en P w 0 spare held t v d ps) (hwt : ∀ n ∈ d.weights P t, n ≤ reachBytes) : ∃ a, fit a ∧ Shr (fun _ => False) w v (.agg (enc a)) := by
 obtain ⟨fuel, hf⟩ := h
 have : ∃ fs, P.underlying t = some (.struct fs) := by
  unfold StrT at hT
  split at hT
  · rename_i fs hfs; exact ⟨fs, hfs⟩
  · cases hT
 obtain ⟨fs, hfs⟩ := this
 obtain ⟨cs, rfl, hsz⟩ := okWide_struct hfs hv
 obtain ⟨a, h1, h2, h3⟩ := D.dec en w spare held fuel _ _ hf hwt
 refine ⟨a, h1, ?_⟩
 have := Shr.agg (M := fun _ => False) (w := w) cs.toList (enc a) (by rw [D.len a]; exact h2) h3
 simpa using this
end
theorem trodAll_back {H : Type} {enc : TypeId × Value → H} {P : Program} (hl : laidOutB P = true) {W W' : World} (hb : Below W.heap.size W W') : ∀ {ts : List TypeId} {vs : List Value} {ds : List (DataW H)} {ps : List MemPlace}, (ts.all fun t => P.readableRec t && decide (t < P.types.size)) = true →
 DataW.TrodAll enc P W 0 (fun _ => true) true ts vs ds ps → DataW.TrodAll enc P W' 0 (fun b => decide (b < W.heap.size)) true ts vs ds ps
 | [], [], [], ps, _, h => h
 | t :: ts, v :: vs, d :: ds, ps, ht, ⟨p, q, h1, h2, h3⟩ => by
   rw [List.all_cons, Bool.and_eq_true, Bool.and_eq_true] at ht
   refine ⟨p, q, Below.trod hl ht.1.1 (of_decide_eq_true ht.1.2) h1 hb ?_, trodAll_back hl hb ht.2 h2, h3⟩
   obtain ⟨m, hm⟩ := h1
   exact DataW.trod_lt m _ _ _ hm
theorem AF.law {P : Program} {f : FuncId} {ps : List PV} (hA : AF P f ps (· = .val (.bool true))) {W : World} {vs : List Value} (hl : vs.length = ps.length) (hv : ∀ (i : Nat) (v : Value) (p : PV), vs[i]? = some v → ps[i]? = some p → Shr (fun _ => False) W v p) (hT : TabW W (fun _ => False) (fun _ => False)) :
 Calls P f vs.toArray W fun e w' => e = .returned (.bool true) ∧ Below W.heap.size W w' :=
 (hA (fun _ => False) W vs ⟨fun _ h => h.elim, fun _ => hT⟩ hl hv).mono fun e w' ⟨v, p, F, h1, h2, h3, h4, _⟩ => by
   subst h2
   have := (h4.sh rfl).vOf
   subst this
   exact ⟨h1, h3⟩
end
open Go.RowKit Go.Cb Go.ChangeShapes Go.WideShapes Go.ChangeAt
section
variable {P : Program} {t : TypeId}
theorem dec_struct5 {α β γ δ ε : Type} {f0 f1 f2 f3 f4 : Field} {k0 k1 k2 k3 k4 : Nat} {enc0 : α → List PV} {enc1 : β → List PV} {enc2 : γ → List PV} {enc3 : δ → List PV} {enc4 : ε → List PV} {fit0 : α → Prop} {fit1 : β → Prop} {fit2 : γ → Prop} {fit3 : δ → Prop} {fit4 : ε → Prop} (ht : P.underlying t = some (.struct #[f0, f1, f2, f3, f4])) (hs : P.cellsOf t = k0 + k1 + k2 + k3 + k4)
 (D0 : Dec P f0.type k0 enc0 fit0) (D1 : Dec P f1.type k1 enc1 fit1) (D2 : Dec P f2.type k2 enc2 fit2) (D3 : Dec P f3.type k3 enc3 fit3) (D4 : Dec P f4.type k4 enc4 fit4) (ho0 : f0.offset = 0) (ho1 : f1.offset = k0) (ho2 : f2.offset = k0 + k1) (ho3 : f3.offset = k0 + k1 + k2) (ho4 : f4.offset = k0 + k1 + k2 + k3) :
 Dec P t (k0 + k1 + k2 + k3 + k4) (fun x : α × β × γ × δ × ε => enc0 x.1 ++ (enc1 x.2.1 ++ (enc2 x.2.2.1 ++ (enc3 x.2.2.2.1 ++ enc4 x.2.2.2.2)))) (fun x => fit0 x.1 ∧ fit1 x.2.1 ∧ fit2 x.2.2.1 ∧ fit3 x.2.2.2.1 ∧ fit4 x.2.2.2.2) where
 size := hs
 len := fun x => by rw [List.length_append, List.length_append, List.length_append, List.length_append, D0.len, D1.len, D2.len, D3.len, D4.len]; omega
 dec := fun e w spare held fuel cs x h => by
  intro hwt
  obtain ⟨xs, n, _, rfl, hlen, hxl, hf⟩ := DataW.trod_struct ht h
  simp only [DataW.weights, ht] at hwt
  have g0 := hf 0 f0 rfl
  have g1 := hf 1 f1 rfl
  have g2 := hf 2 f2 rfl
  have g3 := hf 3 f3 rfl
  have g4 := hf 4 f4 rfl
  match xs, hxl with
  | [y0, y1, y2, y3, y4], _ =>
  rw [ho0] at g0
  rw [ho1] at g1
  rw [ho2] at g2
  rw [ho3] at g3
  rw [ho4] at g4
  obtain ⟨a, ha, A⟩ := dec_field D0 g0 (fun n hn => hwt n (weightsEach_mem P 0 (by simp) (by simp) hn))
  obtain ⟨b, hb, B⟩ := dec_field D1 g1 (fun n hn => hwt n (weightsEach_mem P 1 (by simp) (by simp) hn))
  obtain ⟨c, hc, C⟩ := dec_field D2 g2 (fun n hn => hwt n (weightsEach_mem P 2 (by simp) (by simp) hn))
  obtain ⟨d, hd, D⟩ := dec_field D3 g3 (fun n hn => hwt n (weightsEach_mem P 3 (by simp) (by simp) hn))
  obtain ⟨e', he, E⟩ := dec_field D4 g4 (fun n hn => hwt n (weightsEach_mem P 4 (by simp) (by simp) hn))
  refine ⟨(a, b, c, d, e'), ⟨ha, hb, hc, hd, he⟩, by rw [hlen, hs], split_at (D0.len a) (fun i v p hv hp => A i v p (by rw [Nat.zero_add]; exact hv) hp) fun i v p hv hp => ?_⟩
  refine split_at (cs := cs.drop k0) (D1.len b) (fun i v p hv hp => B i v p (by rw [List.getElem?_drop] at hv; exact hv) hp) (fun i v p hv hp => ?_) i v p (by rw [List.getElem?_drop]; exact hv) hp
  refine split_at (cs := cs.drop (k0 + k1)) (D2.len c) (fun i v p hv hp => C i v p (by rw [List.getElem?_drop] at hv; exact hv) hp) (fun i v p hv hp => ?_) i v p (by rw [List.getElem?_drop] at hv ⊢; rw [Nat.add_assoc]; exact hv) hp
  exact split_at (cs := cs.drop (k0 + k1 + k2)) (D3.len d) (fun i v p hv hp => D i v p (by rw [List.getElem?_drop] at hv; exact hv) hp) (fun i v p hv hp => E i v p (by rw [List.getElem?_drop, ← Nat.add_assoc] at hv; exact hv) hp) i v p (by rw [List.getElem?_drop] at hv ⊢; rw [Nat.add_assoc]; exact hv) hp
end
end Go.En
namespace Go.Proofs.YtgigclnaicbiaaaGreatDoor
open Go.RowKit Go.Cb Go.En Go.ChangeShapes Go.WideShapes Go.ChangeAt
set_option linter.all false
set_option maxRecDepth 100000
def fitI (n : Int) : Prop := -9223372036854775808 ≤ n ∧ n ≤ 9223372036854775807
def fitL (l : List Int) : Prop := l.length ≤ 140737488355328 ∧ ∀ n ∈ l, fitI n
def fitM (m : Mv) : Prop := fitI m.src ∧ fitI m.dst ∧ fitI m.sym
def fitMs (l : List Mv) : Prop := l.length ≤ 140737488355328 ∧ ∀ m ∈ l, fitM m
def fitA (a : Aut) : Prop := fitI a.n ∧ fitI a.syms ∧ fitL a.start ∧ fitL a.fin ∧ fitMs a.moves
theorem dInt : Dec Tryz.prog 3 1 (fun n : Int => [pInt n]) fitI := dec_int Tryz.underlying3 (by kernel_rfl)
theorem dInts : Dec Tryz.prog 22 1 (fun l => [pInts l]) fitL :=
 dec_map id (dec_slice Tryz.underlying22 (by kernel_rfl) (by decide) (Nat.le_of_ble_eq_true (by kernel_rfl)) dInt) (fun _ => rfl) (fun l => by show [PV.sl l.length (l.map pInt)] = _; rw [flat_one]) (fun _ h => h)
theorem dMv : Dec Tryz.prog 72 3 cMv fitM :=
 dec_map (fun x : Int × Int × Int => (⟨x.1, x.2.1, x.2.2⟩ : Mv)) (dec_struct3 Tryz.underlying72 (by kernel_rfl) dInt dInt dInt rfl rfl rfl) (fun _ => rfl) (fun _ => rfl) (fun _ h => h)
theorem dMvs : Dec Tryz.prog 23 1 (fun l => [pMvs l]) fitMs :=
 dec_map id (dec_slice Tryz.underlying23 (by kernel_rfl) (by decide) (Nat.le_of_ble_eq_true (by kernel_rfl)) dMv) (fun _ => rfl) (fun _ => rfl) (fun _ h => h)
theorem dAut : Dec Tryz.prog 25 5 cAut fitA :=
 dec_map (fun x : Int × Int × List Int × List Int × List Mv => (⟨x.1, x.2.1, x.2.2.1, x.2.2.2.1, x.2.2.2.2⟩ : Aut)) (dec_struct5 Tryz.underlying25 (by kernel_rfl) dInt dInt dInts dInts dMvs rfl rfl rfl rfl rfl) (fun _ => rfl) (fun _ => rfl) (fun _ h => h)
def autR : Except Int Aut → Aut
 | .ok a => a
 | .error _ => autZ
def errR : Except Int Aut → Int
 | .ok _ => 0
 | .error e => e
theorem resA_R (x : Except Int Aut) : resA x = .tup [pAut (autR x), pInt (errR x)] := by cases x <;> rfl
theorem resW_R {P : Program} {f : Nat} {ps : List PV} {x : Except Int Aut} (h : AF P f ps (· = resW x)) : AF P f ps (· = .tup [pAut (autR x), pInt (errR x)]) := by
 rw [← resA_R]; exact resW_A h
theorem r07Same_self (a : Aut) (h : a.moves.length ≤ 20000) : AF Tryz.prog 20 [pAut a, pAut a] (· = pBool true) := (r07Same_e a a (by omega) (by omega)).mono fun p hp => by rw [hp, decide_eq_true rfl]
open Go.RowKit Go.Cb Go.En
def InW (m : Int) (w : List Int) : Prop := ∀ c ∈ w, 0 ≤ c ∧ c < m
theorem InW.left {m : Int} {u v : List Int} (h : InW m (u ++ v)) : InW m u := fun c hc => h c (List.mem_append_left _ hc)
theorem InW.right {m : Int} {u v : List Int} (h : InW m (u ++ v)) : InW m v := fun c hc => h c (List.mem_append_right _ hc)
theorem InW.nn {m : Int} {w : List Int} (h : InW m w) : ∀ c ∈ w, 0 ≤ c := fun c hc => (h c hc).1
theorem forW {m : Int} {P : List Int → Prop} (h : ∀ v, WordN m.toNat v → P (wI v)) {w : List Int} (hw : InW m w) : P w := by
 obtain ⟨v, rfl, hv⟩ := wI_of hw
 exact h v hv
theorem lim_ok {x : Option Aut} (h : errR (lim x) ≠ 13) : ∃ C, lim x = .ok C := by
 cases x with
 | none => exact absurd rfl h
 | some C => exact ⟨C, rfl⟩
theorem redX_ok13 {a : Aut} (h : errR (redX a) ≠ 13) : ∃ C, redX a = .ok C := by
 unfold redX at h ⊢
 cases hx : subT a with
 | none => rw [hx] at h; exact absurd rfl h
 | some t => rw [hx] at h; exact lim_ok h
theorem madeX_ok13 {a : Aut} (h : errR (madeX a) ≠ 13) : ∃ C, madeX a = .ok C := by
 unfold madeX redL at h ⊢
 split
 · rename_i hc
   rw [if_pos hc] at h
   exact absurd rfl h
 · rename_i hc
   rw [if_neg hc] at h
   exact redX_ok13 h
structure Res (C : Aut) (m : Int) (L : List Int → Prop) : Prop where
 min : IsMin C
 syms : C.syms = m
 acc : ∀ w, InW m w → (accA C w = true ↔ L w)
theorem Res.valid {C : Aut} {m : Int} {L : List Int → Prop} (h : Res C m L) : autOk C = true := h.min.valid
section
variable {a b : Aut}
theorem lng_acc (h : autOk a = true) {w : List Int} (hw : InW a.syms w) : Lng a w ↔ accA a w = true := (acc_lng (aok_of h) hw.nn).symm
theorem minX_res (h : autOk a = true) (he : errR (minX a) ≠ 13) : ∃ C, minX a = .ok C ∧ Res C a.syms (fun w => accA a w = true) := by
 have e : minX a = redX a := by unfold minX; rw [if_pos h]
 rw [e] at he
 obtain ⟨C, hC⟩ := redX_ok13 he
 rw [← e] at hC
 obtain ⟨h1, h2, h3⟩ := minX_lang hC
 exact ⟨C, hC, h1, h2, fun w hw => forW (P := fun w => accA C w = true ↔ accA a w = true) (fun v hv => by rw [h3 v hv]) hw⟩
theorem compX_res (h : autOk a = true) (he : errR (compX a) ≠ 13) : ∃ C, compX a = .ok C ∧ Res C a.syms (fun w => ¬ accA a w = true) := by
 have hm : errR (minX a) ≠ 13 := fun h2 => by
  unfold compX at he
  cases hx : minX a with
  | ok A => rw [hx] at h2; cases h2
  | error e => rw [hx] at h2 he; exact he h2
 obtain ⟨A, hA, _⟩ := minX_res h hm
 have hC : compX a = .ok (compA A) := by unfold compX; rw [hA]
 obtain ⟨h1, h2, h3⟩ := compX_lang hC
 exact ⟨_, hC, h1, h2, fun w hw => forW (P := fun w => accA (compA A) w = true ↔ ¬ accA a w = true) (fun v hv => by rw [h3 v hv]; cases accA a (wI v) <;> simp) hw⟩
theorem made_res {X : Aut} (hp : PreA X) (he : errR (madeX X) ≠ 13) {m : Int} (hm : X.syms = m) {L : List Int → Prop} (hL : ∀ w, InW m w → (Lng X w ↔ L w)) : ∃ C, madeX X = .ok C ∧ Res C m L := by
 subst hm
 obtain ⟨C, hC⟩ := madeX_ok13 he
 obtain ⟨h1, h2, h3⟩ := madeX_lang hp hC
 exact ⟨C, hC, h1, h2, fun w hw => (forW (P := fun w => accA C w = true ↔ Lng X w) h3 hw).trans (hL w hw)⟩
theorem unionX_res (ha : autOk a = true) (hb : autOk b = true) (hs : a.syms = b.syms) (he : errR (unionX a b) ≠ 13) : ∃ C, unionX a b = .ok C ∧ Res C a.syms (fun w => accA a w = true ∨ accA b w = true) := by
 unfold unionX at he ⊢
 rw [if_neg (fun h => h (fit_ok2 ha hb hs))] at he ⊢
 have va := vok_of ha
 have vb := vok_of hb
 exact made_res (union_pre va vb hs) he rfl fun w hw => by rw [union_lng va vb, lng_acc ha hw, lng_acc hb (by rw [← hs]; exact hw)]
theorem catX_res (ha : autOk a = true) (hb : autOk b = true) (hs : a.syms = b.syms) (he : errR (catX a b) ≠ 13) : ∃ C, catX a b = .ok C ∧ Res C a.syms (fun w => ∃ u v, w = u ++ v ∧ accA a u = true ∧ accA b v = true) := by
 unfold catX at he ⊢
 rw [if_neg (fun h => h (fit_ok2 ha hb hs))] at he ⊢
 have va := vok_of ha
 have vb := vok_of hb
 refine made_res (cat_pre va vb hs) he rfl fun w hw => ?_
 rw [cat_lng va vb]
 constructor
 · rintro ⟨u, v, rfl, h1, h2⟩
   exact ⟨u, v, rfl, (lng_acc ha hw.left).1 h1, (lng_acc hb (by rw [← hs]; exact hw.right)).1 h2⟩
 · rintro ⟨u, v, rfl, h1, h2⟩
   exact ⟨u, v, rfl, (lng_acc ha hw.left).2 h1, (lng_acc hb (by rw [← hs]; exact hw.right)).2 h2⟩
theorem star_congr {m : Int} {L M : List Int → Prop} (h : ∀ w, InW m w → (L w → M w)) {w : List Int} (hs : Star L w) : InW m w → Star M w := by
 induction hs with
 | nil => exact fun _ => .nil
 | app h1 _ ih => exact fun hw => .app (h _ hw.left h1) (ih hw.right)
theorem starX_res (ha : autOk a = true) (he : errR (starX a) ≠ 13) : ∃ C, starX a = .ok C ∧ Res C a.syms (Star fun w => accA a w = true) := by
 unfold starX at he ⊢
 rw [if_pos ha] at he ⊢
 have va := vok_of ha
 refine made_res (star_pre va) he rfl fun w hw => ?_
 rw [star_lng va]
 exact ⟨fun h => star_congr (fun u hu h => (lng_acc ha hu).1 h) h hw, fun h => star_congr (fun u hu h => (lng_acc ha hu).2 h) h hw⟩
theorem InW.rev {m : Int} {w : List Int} (h : InW m w) : InW m w.reverse := fun c hc => h c (List.mem_reverse.1 hc)
theorem revX_res (ha : autOk a = true) (he : errR (revX a) ≠ 13) : ∃ C, revX a = .ok C ∧ Res C a.syms (fun w => accA a w.reverse = true) := by
 unfold revX at he ⊢
 rw [if_pos ha] at he ⊢
 have va := vok_of ha
 exact made_res (rev_pre va) he rfl fun w hw => by rw [rev_lng, lng_acc ha hw.rev]
theorem InW.mix {m : Int} {w u v : List Int} (hm : Mix w u v) : InW m w → InW m u ∧ InW m v := by
 induction hm with
 | nil => exact fun h => ⟨h, h⟩
 | one c _ ih =>
   intro h
   obtain ⟨h1, h2⟩ := ih fun c hc => h c (List.mem_cons_of_mem _ hc)
   refine ⟨fun d hd => ?_, h2⟩
   rcases List.mem_cons.1 hd with rfl | hd
   · exact h d (List.mem_cons_self ..)
   · exact h1 d hd
 | two c _ ih =>
   intro h
   obtain ⟨h1, h2⟩ := ih fun c hc => h c (List.mem_cons_of_mem _ hc)
   refine ⟨h1, fun d hd => ?_⟩
   rcases List.mem_cons.1 hd with rfl | hd
   · exact h d (List.mem_cons_self ..)
   · exact h2 d hd
theorem Mix.symm {w u v : List Int} (h : Mix w u v) : Mix w v u := by
 induction h with
 | nil => exact .nil
 | one c _ ih => exact .two c ih
 | two c _ ih => exact .one c ih
theorem shufX_res (ha : autOk a = true) (hb : autOk b = true) (hs : a.syms = b.syms) (he : errR (shufX a b) ≠ 13) : ∃ C, shufX a b = .ok C ∧ Res C a.syms (fun w => ∃ u v, Mix w u v ∧ accA a u = true ∧ accA b v = true) := by
 unfold shufX at he ⊢
 rw [if_neg (fun h => h (fit_ok2 ha hb hs))] at he ⊢
 have va := vok_of ha
 have vb := vok_of hb
 by_cases hc : 2000 < a.n * b.n ∨ 40000 < (a.moves.length : Int) * b.n + (b.moves.length : Int) * a.n
 · rw [if_pos hc] at he; exact absurd rfl he
 · rw [if_neg hc] at he ⊢
   refine made_res (shuf_pre va vb hs) he rfl fun w hw => ?_
   rw [shuf_lng va vb]
   constructor
   · rintro ⟨u, v, hm, h1, h2⟩
     obtain ⟨h3, h4⟩ := InW.mix hm hw
     exact ⟨u, v, hm, (lng_acc ha h3).1 h1, (lng_acc hb (by rw [← hs]; exact h4)).1 h2⟩
   · rintro ⟨u, v, hm, h1, h2⟩
     obtain ⟨h3, h4⟩ := InW.mix hm hw
     exact ⟨u, v, hm, (lng_acc ha h3).2 h1, (lng_acc hb (by rw [← hs]; exact h4)).2 h2⟩
theorem bothX_13 {e : Int} (h : bothX a b = .error e) : e = 13 := by
 unfold bothX at h
 split at h
 · split at h
   · cases h
   · cases h; rfl
 · cases h; rfl
theorem prodX_res {op : Int} (ho : ¬ (op < 1 ∨ 4 < op)) (ha : autOk a = true) (hb : autOk b = true) (hs : a.syms = b.syms) (he : errR (prodX a b op) ≠ 13) : ∃ C, prodX a b op = .ok C ∧ Res C a.syms (fun w => decB op (accA a w) (accA b w) = true) := by
 have hC : ∃ C, prodX a b op = .ok C := by
  unfold prodX at he ⊢
  rw [if_neg (fun h => h (fit_ok2 ha hb hs)), if_neg ho] at he ⊢
  split
  · rename_i A B q hq
    rw [hq] at he
    exact lim_ok he
  · rename_i e hq
    rw [hq] at he
    exact absurd (bothX_13 hq) he
 obtain ⟨C, hC⟩ := hC
 obtain ⟨h1, h2, h3⟩ := prodX_lang hC
 exact ⟨C, hC, h1, h2, fun w hw => forW (P := fun w => accA C w = true ↔ decB op (accA a w) (accA b w) = true) (fun v hv => by rw [h3 v hv]) hw⟩
end
theorem star_app {L : List Int → Prop} {u v : List Int} (h : Star L u) (h' : Star L v) : Star L (u ++ v) := by
 induction h with
 | nil => exact h'
 | app h1 _ ih => rw [List.append_assoc]; exact .app h1 ih
def hitB (a : Aut) (n : Int) (S : List Int) (c : Nat) : Bool := decide (leastL (farL a) (nextL a (c : Nat) S) = n)
theorem near_less {S far : List Int} {m n : Int} (h : m ≤ n) : nearL (nearL S far n) far m = nearL S far m := by
 unfold nearL
 rw [List.filter_filter]
 refine List.filter_congr fun s _ => ?_
 unfold farB
 cases far[s.toNat]? with
 | none => simp
 | some d => simp; omega
structure Shrt (a : Aut) (n : Int) (P S : List Int) : Prop where
 p : InS a P
 s : InS a S
 e : nearL P (farL a) n = nearL S (farL a) n
 l : n ≤ leastL (farL a) S
theorem near_step {a : Aut} (h : MvIn a) {n : Int} {P S : List Int} (hS : Shrt a n P S) {c : Int} (hc : 0 ≤ c) : nearL (nextL a c P) (farL a) (n - 1) = nearL (nextL a c S) (farL a) (n - 1) := by
 rw [← near_next h hS.p hc n, ← near_next h hS.s hc n, hS.e]
theorem Shrt.hit {a : Aut} (h : MvIn a) {n : Int} {P S : List Int} (hS : Shrt a n P S) {c : Nat} (hc : hitB a (n - 1) S c = true) : Shrt a (n - 1) (nearL (nextL a (c : Nat) P) (farL a) (n - 1)) (nextL a (c : Nat) S) :=
 ⟨near_in (next_in h _ _) _ _, next_in h _ _, by rw [near_less (Int.le_refl _)]; exact near_step h hS (by omega), by unfold hitB at hc; rw [decide_eq_true_eq] at hc; omega⟩
section
variable {a : Aut}
def Clo (a : Aut) (S : List Int) : Prop := ∃ T, InS a T ∧ S = closL a T
theorem Clo.next (h : AOk a) (c : Int) (S : List Int) : Clo a (nextL a c S) := ⟨_, leads_in h.mi c S, rfl⟩
end
section
variable {a : Aut}
end
section
variable {P : Program} {o : Oper} {st : St}
theorem q_neqV {x y : Operand} {q q' : PV} {t t' : TypeId} {k : IntKind} {a : Int} (ho : o.op = .binOp .neq t x y t' := by exact rfl) (hx : ev st.slots x = some (.int k a, q) := by exact rfl) (hy : ev st.slots y = some (.int k a, q') := by exact rfl) : YE P st o (· = .bool false) (.val (.bool false)) := by
 have h := q_neq (P := P) ho hx hy
 rwa [decide_eq_false (fun h => h rfl)] at h
end
theorem takes07_e (a : Aut) (w : List Int) : AF Tryz.prog 39 [pAut a, pInts w] (· = .tup [pBool (accX a w).1, pBool (decide ((accX a w).2 = 0))]) := by
 have hc := aAcceptsW_x a w
 refine AF.of_body 17 Tryz.func39 rfl Tryz.ntmps39 (Nat.le_of_ble_eq_true rfl) ?_
 intro w0 M0 vs hl hv
 obtain ⟨v0, v1, rfl⟩ := len2 hl
 clear hl hv
 refine nav ?_
 (refine aC_region ?_ <;> refine s_boxa 2 5 fun h2 => ?_ <;> refine xL 4 q_assign ?_ <;> refine xL 5 q_assign ?_ <;> refine aL_end (nav ?_) <;> try dsimp only)
 (refine aC_region ?_ <;> (refine yL 9 (q_ldao 2 tAgg25_LdS) fun v9 hv9 => ?_; cases hv9) <;> refine xL 10 q_move ?_ <;> (refine cP 11 (cA Tryz.call22 (hc)) fun va11 vb11 hva11 hvb11 => ?_; cases hva11; cases hvb11) <;> refine xL 8 q_move ?_ <;> refine xL 12 q_extract ?_ <;> refine xL 13 q_extract ?_ <;> refine xL 6 q_assign ?_ <;> refine xL 7 q_assign ?_ <;> refine aL_end (nav ?_) <;> try dsimp only)
 (refine aC_region ?_ <;> refine xL 14 q_move ?_ <;> refine xL 15 q_move ?_ <;> refine xL 16 q_eql ?_ <;> refine xL 4 q_assign ?_ <;> refine xL 5 q_assign ?_ <;> refine aL_end (nav ?_) <;> try dsimp only)
 exact ret_ss (Tryz.results39) rfl rfl rfl
end Go.Proofs.YtgigclnaicbiaaaGreatDoor
