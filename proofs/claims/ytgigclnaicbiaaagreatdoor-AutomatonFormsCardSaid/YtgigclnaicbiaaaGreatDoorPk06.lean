/-
  Walks: automata: Star.
  Plain laws: minimal automata are deterministic and complete; their products. No program in sight.
  The engine: maps keyed by pairs of numbers. No program in sight.
  The engine: three values are handed back. No program in sight.
  Walks: automata: products.
  Plain laws: how what a search has met was met; ways back; turning round. No program in sight.
  The engine: a row of numbers is turned round by the library. No program in sight.
  Walks: automata: the first word of a product.
  Walks: automata: both, compare, Equivalent, Included, Product.
  Walks: words, moves, automata are compared; the law's bounds (layer 7).
  Plain laws: the words of an automaton, in a form that is evaluated. No program in sight.
  Plain laws: the chapter's automaton is evaluated. No program in sight.
  Walks: automata are compared; the law's bounds; the chapter's automaton (layer 7).
  Plain laws: the chapter's automaton, its star, what they are compared with, evaluated. No program in sight.
-/
import Derived.Test.YtgigclnaicbiaaaGreatDoorPk05
import Derived.Test.YtgigclnaicbiaaaGreatDoorPk02
import Derived.Test.YtgigclnaicbiaaaGreatDoorMShelfG
import Derived.Test.YtgigclnaicbiaaaGreatDoorPk03
namespace Go.Proofs.YtgigclnaicbiaaaGreatDoor
open Go.RowKit Go.Cb Go.En
set_option linter.all false
set_option maxRecDepth 100000

theorem tAgg25_LfO : AggT Tryz.prog 25 5 = true := by kernel_rfl
theorem tEl22_LfO : ElT Tryz.prog 22 3 1 8 (.int .i64 0) := ⟨Tryz.underlying22, by kernel_rfl, rfl, by decide⟩
theorem tEl23_LfO : ElT Tryz.prog 23 72 3 24 (.agg #[(.int .i64 0), (.int .i64 0), (.int .i64 0)]) := ⟨Tryz.underlying23, by kernel_rfl, rfl, by decide⟩
theorem tFl25_0_LfO : FldT Tryz.prog 25 0 0 = true := by kernel_rfl
theorem tFl25_1_LfO : FldT Tryz.prog 25 1 1 = true := by kernel_rfl
theorem tFl25_2_LfO : FldT Tryz.prog 25 2 2 = true := by kernel_rfl
theorem tFl25_3_LfO : FldT Tryz.prog 25 3 3 = true := by kernel_rfl
theorem tFl25_4_LfO : FldT Tryz.prog 25 4 4 = true := by kernel_rfl
theorem tNa22_LfO : NoAgg Tryz.prog 22 = true := by kernel_rfl
theorem tNa23_LfO : NoAgg Tryz.prog 23 = true := by kernel_rfl
theorem tNa3_LfO : NoAgg Tryz.prog 3 = true := by kernel_rfl
theorem tSl22_LfO : SlT Tryz.prog 22 3 1 = true := by kernel_rfl
theorem tSt25_LfO : stInfo Tryz.prog 25 = some ((.agg #[(.int .i64 0), (.int .i64 0), (.slice none 0 0), (.slice none 0 0), (.slice none 0 0)]), ([0, 1, 2, 3, 4] : List Nat).map fun o => (o, 1)) := by kernel_rfl
theorem tSt72_LfO : stInfo Tryz.prog 72 = some ((.agg #[(.int .i64 0), (.int .i64 0), (.int .i64 0)]), ([0, 1, 2] : List Nat).map fun o => (o, 1)) := by kernel_rfl
theorem tSz23_LfO : (Tryz.prog.info? 23).map (·.size) = some 1 := by kernel_rfl
theorem tZr25_LfO : ZeroT Tryz.prog 25 (.agg #[(.int .i64 0), (.int .i64 0), (.slice none 0 0), (.slice none 0 0), (.slice none 0 0)]) := by unfold ZeroT; kernel_rfl

theorem starX_bad {a : Aut} (h : autOk a = false) : starX a = .error 1 := by unfold starX; rw [h]; rfl
theorem starX_ok {a : Aut} (h : autOk a = true) : starX a = madeX (starA a) := by unfold starX; rw [h]; rfl
def stMv (n : Int) (l : List Int) : List Mv := l.map fun s => ⟨n, s, -1⟩
def fiMv (n : Int) (l : List Int) : List Mv := l.map fun s => ⟨s, n, -1⟩
theorem stMv_snoc (n : Int) {l : List Int} {k : Nat} {x : Int} (h : l[k]? = some x) : stMv n (l.take (k + 1)) = stMv n (l.take k) ++ [⟨n, x, -1⟩] := by unfold stMv; rw [take_snoc h, List.map_append]; rfl
theorem fiMv_snoc (n : Int) {l : List Int} {k : Nat} {x : Int} (h : l[k]? = some x) : fiMv n (l.take (k + 1)) = fiMv n (l.take k) ++ [⟨x, n, -1⟩] := by unfold fiMv; rw [take_snoc h, List.map_append]; rfl
theorem star_moves (a : Aut) : (starA a).moves = a.moves ++ stMv a.n a.start ++ fiMv a.n a.fin := rfl
theorem star_len {a : Aut} (h : AOk a) : (starA a).moves.length ≤ 1000000 := by
  rw [star_moves, List.length_append, List.length_append]
  unfold stMv fiMv
  rw [List.length_map, List.length_map]
  have := h.ml; have := h.sl; have := h.fl
  omega
theorem aStar_bad (a : Aut) (hv : autOk a = false) : AF Tryz.prog 44 [pAut a] (· = .tup [rawZ, pInt 1]) := by
  refine AF.of_body 64 Tryz.func44 rfl Tryz.ntmps44 (Nat.le_of_ble_eq_true rfl) ?_
  intro w0 M0 vs hl hv
  obtain ⟨v0, rfl⟩ := len1 hl
  clear hl hv
  refine nav ?_
  (refine aC_region ?_
    <;> refine s_boxa 1 5 fun h1 => ?_
    <;> refine s_alloc [(.int .i64 0), (.int .i64 0), (.slice none 0 0), (.slice none 0 0), (.slice none 0 0)] 5 2 tZr25_LfO fun h2 => ?_
    <;> refine xL 3 q_assign ?_
    <;> refine aL_end (nav ?_) <;> try dsimp only)
  (refine aC_region ?_
    <;> (refine yL 10 (q_ldao 1 tAgg25_LfO) fun v10 hv10 => ?_; cases hv10)
    <;> (refine cS 11 (cA Tryz.call24 (aValid_e a)) fun v11 hv11 => ?_; cases hv11)
    <;> refine xL 12 q_not ?_
    <;> refine aL_end (nav ?_) <;> try dsimp only)
  first | refine cCd (fun hb12 => ?_) (fun hb12 => ?_) | refine cC (fun hb12 => ?_) (fun hb12 => ?_)
  · refine nav ?_
    (refine aC_region ?_
      <;> refine xL 13 (q_build tSt25_LfO) ?_
      <;> refine s_sta 2 tAgg25_LfO ?_
      <;> refine xL 3 q_assign ?_
      <;> refine aL_end (nav ?_) <;> try dsimp only)
    exact ret_cs (k := 5) 2 (by kernel_rfl) (Tryz.results44) rfl rfl rfl (Nat.le_of_ble_eq_true rfl) (by decide) rfl rfl
  · rw [hv] at hb12; simp at hb12
set_option maxHeartbeats 1000000 in
theorem aStar_ok (a : Aut) (hv : autOk a = true) {A : Aut} (hr : AF Tryz.prog 83 [pAut (mkA (starA a))] (· = .tup [pAut A, pInt 0])) : AF Tryz.prog 44 [pAut a] (· = .tup [pAut A, pInt 0]) := by
  have h := vok_of hv
  have hn0 := h.n0
  have hn1 := h.n1
  have hml := h.ml
  have hsl := h.sl
  have hfl := h.fl
  refine AF.of_body 64 Tryz.func44 rfl Tryz.ntmps44 (Nat.le_of_ble_eq_true rfl) ?_
  intro w0 M0 vs hl hv
  obtain ⟨v0, rfl⟩ := len1 hl
  clear hl hv
  refine nav ?_
  (refine aC_region ?_
    <;> refine s_boxa 1 5 fun h1 => ?_
    <;> refine s_alloc [(.int .i64 0), (.int .i64 0), (.slice none 0 0), (.slice none 0 0), (.slice none 0 0)] 5 2 tZr25_LfO fun h2 => ?_
    <;> refine xL 3 q_assign ?_
    <;> refine aL_end (nav ?_) <;> try dsimp only)
  (refine aC_region ?_
    <;> (refine yL 10 (q_ldao 1 tAgg25_LfO) fun v10 hv10 => ?_; cases hv10)
    <;> (refine cS 11 (cA Tryz.call24 (aValid_e a)) fun v11 hv11 => ?_; cases hv11)
    <;> refine xL 12 q_not ?_
    <;> refine aL_end (nav ?_) <;> try dsimp only)
  first | refine cCd (fun hb12 => ?_) (fun hb12 => ?_) | refine cC (fun hb12 => ?_) (fun hb12 => ?_)
  · rw [hv] at hb12; simp at hb12
  · refine nav ?_
    (refine aC_region ?_
      <;> refine xL 14 (q_fldo 1 tFl25_0_LfO) ?_
      <;> (refine yL 15 (q_ldo 1 tNa3_LfO) fun v15 hv15 => ?_; cases hv15)
      <;> refine xL 4 q_assign ?_
      <;> refine aL_end (nav ?_) <;> try dsimp only)
    refine aC_mid (fun x : { x : Value × Value // x.1.oneCell' = true } => ⟨[(1, padd (sbase h1) 0, .val (padd (sbase h1) 0)), (2, padd (sbase h2) 0, .val (padd (sbase h2) 0)), (4, .int .i64 a.n, pInt a.n), (5, padd (sbase x.1.2) 0, .val (padd (sbase x.1.2) 0))], [(1, h1, .own 25 5 1 [pInt a.n, pInt a.syms, pInts a.start, pInts a.fin, pMvs a.moves]), (2, h2, .own 25 5 1 [pInt 0, pInt 0, .val (.slice none 0 0), .val (.slice none 0 0), .val (.slice none 0 0)]), (5, x.1.2, .own 25 5 1 [pInt (a.n + 1), pInt a.syms, pInts [a.n], pInts [a.n], .val x.1.1]), (26, x.1.1, .own 72 3 a.moves.length (a.moves.flatMap cMv))]⟩) ?_ ?_
    · (refine aC_draw (fun i => ([] : List Nat).elem i) [1] (by kernel_rfl) ?_
        <;> refine xD 0 16 rfl q_move ?_
        <;> refine xD 1 17 rfl q_add ?_
        <;> refine xD 2 18 rfl (q_fldo 1 tFl25_1_LfO) ?_
        <;> (refine yD 3 19 rfl (q_ldo 1 tNa3_LfO) fun v19 hv19 => ?_; cases hv19)
        <;> refine xD 4 20 rfl q_move ?_
        <;> refine xD 6 22 rfl q_move ?_
        <;> refine xD 8 24 rfl (q_fldo 1 tFl25_4_LfO) ?_
        <;> (refine yD 9 25 rfl (q_ldo 1 tNa23_LfO) fun v25 hv25 => ?_; cases hv25)
        <;> (refine aD_four 5 7 10 12 (by kernel_rfl) ?_ ?_ ?_ ?_; rotate_right; (focus ((refine aW_run rfl fun w9 M9 N9 DQ back => ?_) <;> refine s_alloc [(.int .i64 0), (.int .i64 0), (.slice none 0 0), (.slice none 0 0), (.slice none 0 0)] 5 5 tZr25_LfO fun h5 => ?_ <;> refine aL_end (back _ (nrm ?_)) <;> (refine aD_three 5 7 10 (by kernel_rfl) ?_ ?_ ?_; rotate_right; (focus ((refine aW_run rfl fun w9 M9 N9 DQ back => ?_) <;> refine cO 26 (cA Tryz.call96 (cloneMv_e a.moves (by omega))) fun v26 ho26 => ?_ <;> refine aL_end (back _ (nrm ?_)) <;> (refine aD_two 5 7 (by kernel_rfl) ?_ ?_; rotate_right; (focus ((refine aW_run rfl fun w9 M9 N9 DQ back => ?_) <;> (refine s_lit1 (kk := 1) 23 tEl22_LfO fun h23 ho23 => ?_; refine aL_ent (En.freeze (l := 23) (t := 23) rfl rfl) fun _ => ?_; rw [show share (PV.own 3 1 1 [PV.val (.int .i64 a.n)]) = pInts [a.n] from rfl]) <;> refine aL_end (back _ (nrm ?_)) <;> (refine aD_one 5 (by kernel_rfl) ?_) <;> (refine aW_run rfl fun w9 M9 N9 DQ back => ?_) <;> (refine s_lit1 (kk := 1) 21 tEl22_LfO fun h21 ho21 => ?_; refine aL_ent (En.freeze (l := 21) (t := 21) rfl rfl) fun _ => ?_; rw [show share (PV.own 3 1 1 [PV.val (.int .i64 a.n)]) = pInts [a.n] from rfl]) <;> refine aL_end (back _ (nrm ?_)) <;> refine xE 11 27 rfl (q_build tSt25_LfO) ?_ <;> (refine aD_one 13 (by kernel_rfl) ?_) <;> (refine aW_run rfl fun w9 M9 N9 DQ back => ?_) <;> (refine s_sta 5 (m := 5) (by kernel_rfl) ?_ (h1 := by show (List.all [pInt (a.n + 1), pInt a.syms, pInts [a.n], pInts [a.n], PV.val v26] En.one) = true; simp only [List.all_cons, List.all_nil, Bool.and_true, Bool.and_eq_true]; exact ⟨rfl, rfl, rfl, rfl, ho26⟩)) <;> refine aL_end (back _ (nrm ?_)) <;> refine aD_end (by kernel_rfl) (nav ?_))); rotate_right; (focus ((refine aW_run rfl fun w9 M9 N9 DQ back => ?_) <;> (refine s_lit1 (kk := 1) 21 tEl22_LfO fun h21 ho21 => ?_; refine aL_ent (En.freeze (l := 21) (t := 21) rfl rfl) fun _ => ?_; rw [show share (PV.own 3 1 1 [PV.val (.int .i64 a.n)]) = pInts [a.n] from rfl]) <;> refine aL_end (back _ (nrm ?_)) <;> (refine aD_one 7 (by kernel_rfl) ?_) <;> (refine aW_run rfl fun w9 M9 N9 DQ back => ?_) <;> (refine s_lit1 (kk := 1) 23 tEl22_LfO fun h23 ho23 => ?_; refine aL_ent (En.freeze (l := 23) (t := 23) rfl rfl) fun _ => ?_; rw [show share (PV.own 3 1 1 [PV.val (.int .i64 a.n)]) = pInts [a.n] from rfl]) <;> refine aL_end (back _ (nrm ?_)) <;> refine xE 11 27 rfl (q_build tSt25_LfO) ?_ <;> (refine aD_one 13 (by kernel_rfl) ?_) <;> (refine aW_run rfl fun w9 M9 N9 DQ back => ?_) <;> (refine s_sta 5 (m := 5) (by kernel_rfl) ?_ (h1 := by show (List.all [pInt (a.n + 1), pInt a.syms, pInts [a.n], pInts [a.n], PV.val v26] En.one) = true; simp only [List.all_cons, List.all_nil, Bool.and_true, Bool.and_eq_true]; exact ⟨rfl, rfl, rfl, rfl, ho26⟩)) <;> refine aL_end (back _ (nrm ?_)) <;> refine aD_end (by kernel_rfl) (nav ?_)))))); rotate_right; (focus ((refine aW_run rfl fun w9 M9 N9 DQ back => ?_) <;> (refine s_lit1 (kk := 1) 23 tEl22_LfO fun h23 ho23 => ?_; refine aL_ent (En.freeze (l := 23) (t := 23) rfl rfl) fun _ => ?_; rw [show share (PV.own 3 1 1 [PV.val (.int .i64 a.n)]) = pInts [a.n] from rfl]) <;> refine aL_end (back _ (nrm ?_)) <;> (refine aD_two 5 10 (by kernel_rfl) ?_ ?_; rotate_right; (focus ((refine aW_run rfl fun w9 M9 N9 DQ back => ?_) <;> refine cO 26 (cA Tryz.call96 (cloneMv_e a.moves (by omega))) fun v26 ho26 => ?_ <;> refine aL_end (back _ (nrm ?_)) <;> (refine aD_one 5 (by kernel_rfl) ?_) <;> (refine aW_run rfl fun w9 M9 N9 DQ back => ?_) <;> (refine s_lit1 (kk := 1) 21 tEl22_LfO fun h21 ho21 => ?_; refine aL_ent (En.freeze (l := 21) (t := 21) rfl rfl) fun _ => ?_; rw [show share (PV.own 3 1 1 [PV.val (.int .i64 a.n)]) = pInts [a.n] from rfl]) <;> refine aL_end (back _ (nrm ?_)) <;> refine xE 11 27 rfl (q_build tSt25_LfO) ?_ <;> (refine aD_one 13 (by kernel_rfl) ?_) <;> (refine aW_run rfl fun w9 M9 N9 DQ back => ?_) <;> (refine s_sta 5 (m := 5) (by kernel_rfl) ?_ (h1 := by show (List.all [pInt (a.n + 1), pInt a.syms, pInts [a.n], pInts [a.n], PV.val v26] En.one) = true; simp only [List.all_cons, List.all_nil, Bool.and_true, Bool.and_eq_true]; exact ⟨rfl, rfl, rfl, rfl, ho26⟩)) <;> refine aL_end (back _ (nrm ?_)) <;> refine aD_end (by kernel_rfl) (nav ?_))); rotate_right; (focus ((refine aW_run rfl fun w9 M9 N9 DQ back => ?_) <;> (refine s_lit1 (kk := 1) 21 tEl22_LfO fun h21 ho21 => ?_; refine aL_ent (En.freeze (l := 21) (t := 21) rfl rfl) fun _ => ?_; rw [show share (PV.own 3 1 1 [PV.val (.int .i64 a.n)]) = pInts [a.n] from rfl]) <;> refine aL_end (back _ (nrm ?_)) <;> (refine aD_one 10 (by kernel_rfl) ?_) <;> (refine aW_run rfl fun w9 M9 N9 DQ back => ?_) <;> refine cO 26 (cA Tryz.call96 (cloneMv_e a.moves (by omega))) fun v26 ho26 => ?_ <;> refine aL_end (back _ (nrm ?_)) <;> refine xE 11 27 rfl (q_build tSt25_LfO) ?_ <;> (refine aD_one 13 (by kernel_rfl) ?_) <;> (refine aW_run rfl fun w9 M9 N9 DQ back => ?_) <;> (refine s_sta 5 (m := 5) (by kernel_rfl) ?_ (h1 := by show (List.all [pInt (a.n + 1), pInt a.syms, pInts [a.n], pInts [a.n], PV.val v26] En.one) = true; simp only [List.all_cons, List.all_nil, Bool.and_true, Bool.and_eq_true]; exact ⟨rfl, rfl, rfl, rfl, ho26⟩)) <;> refine aL_end (back _ (nrm ?_)) <;> refine aD_end (by kernel_rfl) (nav ?_)))))); rotate_right; (focus ((refine aW_run rfl fun w9 M9 N9 DQ back => ?_) <;> (refine s_lit1 (kk := 1) 21 tEl22_LfO fun h21 ho21 => ?_; refine aL_ent (En.freeze (l := 21) (t := 21) rfl rfl) fun _ => ?_; rw [show share (PV.own 3 1 1 [PV.val (.int .i64 a.n)]) = pInts [a.n] from rfl]) <;> refine aL_end (back _ (nrm ?_)) <;> (refine aD_two 7 10 (by kernel_rfl) ?_ ?_; rotate_right; (focus ((refine aW_run rfl fun w9 M9 N9 DQ back => ?_) <;> refine cO 26 (cA Tryz.call96 (cloneMv_e a.moves (by omega))) fun v26 ho26 => ?_ <;> refine aL_end (back _ (nrm ?_)) <;> (refine aD_one 7 (by kernel_rfl) ?_) <;> (refine aW_run rfl fun w9 M9 N9 DQ back => ?_) <;> (refine s_lit1 (kk := 1) 23 tEl22_LfO fun h23 ho23 => ?_; refine aL_ent (En.freeze (l := 23) (t := 23) rfl rfl) fun _ => ?_; rw [show share (PV.own 3 1 1 [PV.val (.int .i64 a.n)]) = pInts [a.n] from rfl]) <;> refine aL_end (back _ (nrm ?_)) <;> refine xE 11 27 rfl (q_build tSt25_LfO) ?_ <;> (refine aD_one 13 (by kernel_rfl) ?_) <;> (refine aW_run rfl fun w9 M9 N9 DQ back => ?_) <;> (refine s_sta 5 (m := 5) (by kernel_rfl) ?_ (h1 := by show (List.all [pInt (a.n + 1), pInt a.syms, pInts [a.n], pInts [a.n], PV.val v26] En.one) = true; simp only [List.all_cons, List.all_nil, Bool.and_true, Bool.and_eq_true]; exact ⟨rfl, rfl, rfl, rfl, ho26⟩)) <;> refine aL_end (back _ (nrm ?_)) <;> refine aD_end (by kernel_rfl) (nav ?_))); rotate_right; (focus ((refine aW_run rfl fun w9 M9 N9 DQ back => ?_) <;> (refine s_lit1 (kk := 1) 23 tEl22_LfO fun h23 ho23 => ?_; refine aL_ent (En.freeze (l := 23) (t := 23) rfl rfl) fun _ => ?_; rw [show share (PV.own 3 1 1 [PV.val (.int .i64 a.n)]) = pInts [a.n] from rfl]) <;> refine aL_end (back _ (nrm ?_)) <;> (refine aD_one 10 (by kernel_rfl) ?_) <;> (refine aW_run rfl fun w9 M9 N9 DQ back => ?_) <;> refine cO 26 (cA Tryz.call96 (cloneMv_e a.moves (by omega))) fun v26 ho26 => ?_ <;> refine aL_end (back _ (nrm ?_)) <;> refine xE 11 27 rfl (q_build tSt25_LfO) ?_ <;> (refine aD_one 13 (by kernel_rfl) ?_) <;> (refine aW_run rfl fun w9 M9 N9 DQ back => ?_) <;> (refine s_sta 5 (m := 5) (by kernel_rfl) ?_ (h1 := by show (List.all [pInt (a.n + 1), pInt a.syms, pInts [a.n], pInts [a.n], PV.val v26] En.one) = true; simp only [List.all_cons, List.all_nil, Bool.and_true, Bool.and_eq_true]; exact ⟨rfl, rfl, rfl, rfl, ho26⟩)) <;> refine aL_end (back _ (nrm ?_)) <;> refine aD_end (by kernel_rfl) (nav ?_))))))))); rotate_right; (focus ((refine aW_run rfl fun w9 M9 N9 DQ back => ?_) <;> refine cO 26 (cA Tryz.call96 (cloneMv_e a.moves (by omega))) fun v26 ho26 => ?_ <;> refine aL_end (back _ (nrm ?_)) <;> (refine aD_three 5 7 12 (by kernel_rfl) ?_ ?_ ?_; rotate_right; (focus ((refine aW_run rfl fun w9 M9 N9 DQ back => ?_) <;> refine s_alloc [(.int .i64 0), (.int .i64 0), (.slice none 0 0), (.slice none 0 0), (.slice none 0 0)] 5 5 tZr25_LfO fun h5 => ?_ <;> refine aL_end (back _ (nrm ?_)) <;> (refine aD_two 5 7 (by kernel_rfl) ?_ ?_; rotate_right; (focus ((refine aW_run rfl fun w9 M9 N9 DQ back => ?_) <;> (refine s_lit1 (kk := 1) 23 tEl22_LfO fun h23 ho23 => ?_; refine aL_ent (En.freeze (l := 23) (t := 23) rfl rfl) fun _ => ?_; rw [show share (PV.own 3 1 1 [PV.val (.int .i64 a.n)]) = pInts [a.n] from rfl]) <;> refine aL_end (back _ (nrm ?_)) <;> (refine aD_one 5 (by kernel_rfl) ?_) <;> (refine aW_run rfl fun w9 M9 N9 DQ back => ?_) <;> (refine s_lit1 (kk := 1) 21 tEl22_LfO fun h21 ho21 => ?_; refine aL_ent (En.freeze (l := 21) (t := 21) rfl rfl) fun _ => ?_; rw [show share (PV.own 3 1 1 [PV.val (.int .i64 a.n)]) = pInts [a.n] from rfl]) <;> refine aL_end (back _ (nrm ?_)) <;> refine xE 11 27 rfl (q_build tSt25_LfO) ?_ <;> (refine aD_one 13 (by kernel_rfl) ?_) <;> (refine aW_run rfl fun w9 M9 N9 DQ back => ?_) <;> (refine s_sta 5 (m := 5) (by kernel_rfl) ?_ (h1 := by show (List.all [pInt (a.n + 1), pInt a.syms, pInts [a.n], pInts [a.n], PV.val v26] En.one) = true; simp only [List.all_cons, List.all_nil, Bool.and_true, Bool.and_eq_true]; exact ⟨rfl, rfl, rfl, rfl, ho26⟩)) <;> refine aL_end (back _ (nrm ?_)) <;> refine aD_end (by kernel_rfl) (nav ?_))); rotate_right; (focus ((refine aW_run rfl fun w9 M9 N9 DQ back => ?_) <;> (refine s_lit1 (kk := 1) 21 tEl22_LfO fun h21 ho21 => ?_; refine aL_ent (En.freeze (l := 21) (t := 21) rfl rfl) fun _ => ?_; rw [show share (PV.own 3 1 1 [PV.val (.int .i64 a.n)]) = pInts [a.n] from rfl]) <;> refine aL_end (back _ (nrm ?_)) <;> (refine aD_one 7 (by kernel_rfl) ?_) <;> (refine aW_run rfl fun w9 M9 N9 DQ back => ?_) <;> (refine s_lit1 (kk := 1) 23 tEl22_LfO fun h23 ho23 => ?_; refine aL_ent (En.freeze (l := 23) (t := 23) rfl rfl) fun _ => ?_; rw [show share (PV.own 3 1 1 [PV.val (.int .i64 a.n)]) = pInts [a.n] from rfl]) <;> refine aL_end (back _ (nrm ?_)) <;> refine xE 11 27 rfl (q_build tSt25_LfO) ?_ <;> (refine aD_one 13 (by kernel_rfl) ?_) <;> (refine aW_run rfl fun w9 M9 N9 DQ back => ?_) <;> (refine s_sta 5 (m := 5) (by kernel_rfl) ?_ (h1 := by show (List.all [pInt (a.n + 1), pInt a.syms, pInts [a.n], pInts [a.n], PV.val v26] En.one) = true; simp only [List.all_cons, List.all_nil, Bool.and_true, Bool.and_eq_true]; exact ⟨rfl, rfl, rfl, rfl, ho26⟩)) <;> refine aL_end (back _ (nrm ?_)) <;> refine aD_end (by kernel_rfl) (nav ?_)))))); rotate_right; (focus ((refine aW_run rfl fun w9 M9 N9 DQ back => ?_) <;> (refine s_lit1 (kk := 1) 23 tEl22_LfO fun h23 ho23 => ?_; refine aL_ent (En.freeze (l := 23) (t := 23) rfl rfl) fun _ => ?_; rw [show share (PV.own 3 1 1 [PV.val (.int .i64 a.n)]) = pInts [a.n] from rfl]) <;> refine aL_end (back _ (nrm ?_)) <;> (refine aD_two 5 12 (by kernel_rfl) ?_ ?_; rotate_right; (focus ((refine aW_run rfl fun w9 M9 N9 DQ back => ?_) <;> refine s_alloc [(.int .i64 0), (.int .i64 0), (.slice none 0 0), (.slice none 0 0), (.slice none 0 0)] 5 5 tZr25_LfO fun h5 => ?_ <;> refine aL_end (back _ (nrm ?_)) <;> (refine aD_one 5 (by kernel_rfl) ?_) <;> (refine aW_run rfl fun w9 M9 N9 DQ back => ?_) <;> (refine s_lit1 (kk := 1) 21 tEl22_LfO fun h21 ho21 => ?_; refine aL_ent (En.freeze (l := 21) (t := 21) rfl rfl) fun _ => ?_; rw [show share (PV.own 3 1 1 [PV.val (.int .i64 a.n)]) = pInts [a.n] from rfl]) <;> refine aL_end (back _ (nrm ?_)) <;> refine xE 11 27 rfl (q_build tSt25_LfO) ?_ <;> (refine aD_one 13 (by kernel_rfl) ?_) <;> (refine aW_run rfl fun w9 M9 N9 DQ back => ?_) <;> (refine s_sta 5 (m := 5) (by kernel_rfl) ?_ (h1 := by show (List.all [pInt (a.n + 1), pInt a.syms, pInts [a.n], pInts [a.n], PV.val v26] En.one) = true; simp only [List.all_cons, List.all_nil, Bool.and_true, Bool.and_eq_true]; exact ⟨rfl, rfl, rfl, rfl, ho26⟩)) <;> refine aL_end (back _ (nrm ?_)) <;> refine aD_end (by kernel_rfl) (nav ?_))); rotate_right; (focus ((refine aW_run rfl fun w9 M9 N9 DQ back => ?_) <;> (refine s_lit1 (kk := 1) 21 tEl22_LfO fun h21 ho21 => ?_; refine aL_ent (En.freeze (l := 21) (t := 21) rfl rfl) fun _ => ?_; rw [show share (PV.own 3 1 1 [PV.val (.int .i64 a.n)]) = pInts [a.n] from rfl]) <;> refine aL_end (back _ (nrm ?_)) <;> refine xD 11 27 rfl (q_build tSt25_LfO) ?_ <;> (refine aD_one 12 (by kernel_rfl) ?_) <;> (refine aW_run rfl fun w9 M9 N9 DQ back => ?_) <;> refine s_alloc [(.int .i64 0), (.int .i64 0), (.slice none 0 0), (.slice none 0 0), (.slice none 0 0)] 5 5 tZr25_LfO fun h5 => ?_ <;> refine aL_end (back _ (nrm ?_)) <;> (refine aD_one 13 (by kernel_rfl) ?_) <;> (refine aW_run rfl fun w9 M9 N9 DQ back => ?_) <;> (refine s_sta 5 (m := 5) (by kernel_rfl) ?_ (h1 := by show (List.all [pInt (a.n + 1), pInt a.syms, pInts [a.n], pInts [a.n], PV.val v26] En.one) = true; simp only [List.all_cons, List.all_nil, Bool.and_true, Bool.and_eq_true]; exact ⟨rfl, rfl, rfl, rfl, ho26⟩)) <;> refine aL_end (back _ (nrm ?_)) <;> refine aD_end (by kernel_rfl) (nav ?_)))))); rotate_right; (focus ((refine aW_run rfl fun w9 M9 N9 DQ back => ?_) <;> (refine s_lit1 (kk := 1) 21 tEl22_LfO fun h21 ho21 => ?_; refine aL_ent (En.freeze (l := 21) (t := 21) rfl rfl) fun _ => ?_; rw [show share (PV.own 3 1 1 [PV.val (.int .i64 a.n)]) = pInts [a.n] from rfl]) <;> refine aL_end (back _ (nrm ?_)) <;> (refine aD_two 7 12 (by kernel_rfl) ?_ ?_; rotate_right; (focus ((refine aW_run rfl fun w9 M9 N9 DQ back => ?_) <;> refine s_alloc [(.int .i64 0), (.int .i64 0), (.slice none 0 0), (.slice none 0 0), (.slice none 0 0)] 5 5 tZr25_LfO fun h5 => ?_ <;> refine aL_end (back _ (nrm ?_)) <;> (refine aD_one 7 (by kernel_rfl) ?_) <;> (refine aW_run rfl fun w9 M9 N9 DQ back => ?_) <;> (refine s_lit1 (kk := 1) 23 tEl22_LfO fun h23 ho23 => ?_; refine aL_ent (En.freeze (l := 23) (t := 23) rfl rfl) fun _ => ?_; rw [show share (PV.own 3 1 1 [PV.val (.int .i64 a.n)]) = pInts [a.n] from rfl]) <;> refine aL_end (back _ (nrm ?_)) <;> refine xE 11 27 rfl (q_build tSt25_LfO) ?_ <;> (refine aD_one 13 (by kernel_rfl) ?_) <;> (refine aW_run rfl fun w9 M9 N9 DQ back => ?_) <;> (refine s_sta 5 (m := 5) (by kernel_rfl) ?_ (h1 := by show (List.all [pInt (a.n + 1), pInt a.syms, pInts [a.n], pInts [a.n], PV.val v26] En.one) = true; simp only [List.all_cons, List.all_nil, Bool.and_true, Bool.and_eq_true]; exact ⟨rfl, rfl, rfl, rfl, ho26⟩)) <;> refine aL_end (back _ (nrm ?_)) <;> refine aD_end (by kernel_rfl) (nav ?_))); rotate_right; (focus ((refine aW_run rfl fun w9 M9 N9 DQ back => ?_) <;> (refine s_lit1 (kk := 1) 23 tEl22_LfO fun h23 ho23 => ?_; refine aL_ent (En.freeze (l := 23) (t := 23) rfl rfl) fun _ => ?_; rw [show share (PV.own 3 1 1 [PV.val (.int .i64 a.n)]) = pInts [a.n] from rfl]) <;> refine aL_end (back _ (nrm ?_)) <;> refine xD 11 27 rfl (q_build tSt25_LfO) ?_ <;> (refine aD_one 12 (by kernel_rfl) ?_) <;> (refine aW_run rfl fun w9 M9 N9 DQ back => ?_) <;> refine s_alloc [(.int .i64 0), (.int .i64 0), (.slice none 0 0), (.slice none 0 0), (.slice none 0 0)] 5 5 tZr25_LfO fun h5 => ?_ <;> refine aL_end (back _ (nrm ?_)) <;> (refine aD_one 13 (by kernel_rfl) ?_) <;> (refine aW_run rfl fun w9 M9 N9 DQ back => ?_) <;> (refine s_sta 5 (m := 5) (by kernel_rfl) ?_ (h1 := by show (List.all [pInt (a.n + 1), pInt a.syms, pInts [a.n], pInts [a.n], PV.val v26] En.one) = true; simp only [List.all_cons, List.all_nil, Bool.and_true, Bool.and_eq_true]; exact ⟨rfl, rfl, rfl, rfl, ho26⟩)) <;> refine aL_end (back _ (nrm ?_)) <;> refine aD_end (by kernel_rfl) (nav ?_))))))))); rotate_right; (focus ((refine aW_run rfl fun w9 M9 N9 DQ back => ?_) <;> (refine s_lit1 (kk := 1) 23 tEl22_LfO fun h23 ho23 => ?_; refine aL_ent (En.freeze (l := 23) (t := 23) rfl rfl) fun _ => ?_; rw [show share (PV.own 3 1 1 [PV.val (.int .i64 a.n)]) = pInts [a.n] from rfl]) <;> refine aL_end (back _ (nrm ?_)) <;> (refine aD_three 5 10 12 (by kernel_rfl) ?_ ?_ ?_; rotate_right; (focus ((refine aW_run rfl fun w9 M9 N9 DQ back => ?_) <;> refine s_alloc [(.int .i64 0), (.int .i64 0), (.slice none 0 0), (.slice none 0 0), (.slice none 0 0)] 5 5 tZr25_LfO fun h5 => ?_ <;> refine aL_end (back _ (nrm ?_)) <;> (refine aD_two 5 10 (by kernel_rfl) ?_ ?_; rotate_right; (focus ((refine aW_run rfl fun w9 M9 N9 DQ back => ?_) <;> refine cO 26 (cA Tryz.call96 (cloneMv_e a.moves (by omega))) fun v26 ho26 => ?_ <;> refine aL_end (back _ (nrm ?_)) <;> (refine aD_one 5 (by kernel_rfl) ?_) <;> (refine aW_run rfl fun w9 M9 N9 DQ back => ?_) <;> (refine s_lit1 (kk := 1) 21 tEl22_LfO fun h21 ho21 => ?_; refine aL_ent (En.freeze (l := 21) (t := 21) rfl rfl) fun _ => ?_; rw [show share (PV.own 3 1 1 [PV.val (.int .i64 a.n)]) = pInts [a.n] from rfl]) <;> refine aL_end (back _ (nrm ?_)) <;> refine xE 11 27 rfl (q_build tSt25_LfO) ?_ <;> (refine aD_one 13 (by kernel_rfl) ?_) <;> (refine aW_run rfl fun w9 M9 N9 DQ back => ?_) <;> (refine s_sta 5 (m := 5) (by kernel_rfl) ?_ (h1 := by show (List.all [pInt (a.n + 1), pInt a.syms, pInts [a.n], pInts [a.n], PV.val v26] En.one) = true; simp only [List.all_cons, List.all_nil, Bool.and_true, Bool.and_eq_true]; exact ⟨rfl, rfl, rfl, rfl, ho26⟩)) <;> refine aL_end (back _ (nrm ?_)) <;> refine aD_end (by kernel_rfl) (nav ?_))); rotate_right; (focus ((refine aW_run rfl fun w9 M9 N9 DQ back => ?_) <;> (refine s_lit1 (kk := 1) 21 tEl22_LfO fun h21 ho21 => ?_; refine aL_ent (En.freeze (l := 21) (t := 21) rfl rfl) fun _ => ?_; rw [show share (PV.own 3 1 1 [PV.val (.int .i64 a.n)]) = pInts [a.n] from rfl]) <;> refine aL_end (back _ (nrm ?_)) <;> (refine aD_one 10 (by kernel_rfl) ?_) <;> (refine aW_run rfl fun w9 M9 N9 DQ back => ?_) <;> refine cO 26 (cA Tryz.call96 (cloneMv_e a.moves (by omega))) fun v26 ho26 => ?_ <;> refine aL_end (back _ (nrm ?_)) <;> refine xE 11 27 rfl (q_build tSt25_LfO) ?_ <;> (refine aD_one 13 (by kernel_rfl) ?_) <;> (refine aW_run rfl fun w9 M9 N9 DQ back => ?_) <;> (refine s_sta 5 (m := 5) (by kernel_rfl) ?_ (h1 := by show (List.all [pInt (a.n + 1), pInt a.syms, pInts [a.n], pInts [a.n], PV.val v26] En.one) = true; simp only [List.all_cons, List.all_nil, Bool.and_true, Bool.and_eq_true]; exact ⟨rfl, rfl, rfl, rfl, ho26⟩)) <;> refine aL_end (back _ (nrm ?_)) <;> refine aD_end (by kernel_rfl) (nav ?_)))))); rotate_right; (focus ((refine aW_run rfl fun w9 M9 N9 DQ back => ?_) <;> refine cO 26 (cA Tryz.call96 (cloneMv_e a.moves (by omega))) fun v26 ho26 => ?_ <;> refine aL_end (back _ (nrm ?_)) <;> (refine aD_two 5 12 (by kernel_rfl) ?_ ?_; rotate_right; (focus ((refine aW_run rfl fun w9 M9 N9 DQ back => ?_) <;> refine s_alloc [(.int .i64 0), (.int .i64 0), (.slice none 0 0), (.slice none 0 0), (.slice none 0 0)] 5 5 tZr25_LfO fun h5 => ?_ <;> refine aL_end (back _ (nrm ?_)) <;> (refine aD_one 5 (by kernel_rfl) ?_) <;> (refine aW_run rfl fun w9 M9 N9 DQ back => ?_) <;> (refine s_lit1 (kk := 1) 21 tEl22_LfO fun h21 ho21 => ?_; refine aL_ent (En.freeze (l := 21) (t := 21) rfl rfl) fun _ => ?_; rw [show share (PV.own 3 1 1 [PV.val (.int .i64 a.n)]) = pInts [a.n] from rfl]) <;> refine aL_end (back _ (nrm ?_)) <;> refine xE 11 27 rfl (q_build tSt25_LfO) ?_ <;> (refine aD_one 13 (by kernel_rfl) ?_) <;> (refine aW_run rfl fun w9 M9 N9 DQ back => ?_) <;> (refine s_sta 5 (m := 5) (by kernel_rfl) ?_ (h1 := by show (List.all [pInt (a.n + 1), pInt a.syms, pInts [a.n], pInts [a.n], PV.val v26] En.one) = true; simp only [List.all_cons, List.all_nil, Bool.and_true, Bool.and_eq_true]; exact ⟨rfl, rfl, rfl, rfl, ho26⟩)) <;> refine aL_end (back _ (nrm ?_)) <;> refine aD_end (by kernel_rfl) (nav ?_))); rotate_right; (focus ((refine aW_run rfl fun w9 M9 N9 DQ back => ?_) <;> (refine s_lit1 (kk := 1) 21 tEl22_LfO fun h21 ho21 => ?_; refine aL_ent (En.freeze (l := 21) (t := 21) rfl rfl) fun _ => ?_; rw [show share (PV.own 3 1 1 [PV.val (.int .i64 a.n)]) = pInts [a.n] from rfl]) <;> refine aL_end (back _ (nrm ?_)) <;> refine xD 11 27 rfl (q_build tSt25_LfO) ?_ <;> (refine aD_one 12 (by kernel_rfl) ?_) <;> (refine aW_run rfl fun w9 M9 N9 DQ back => ?_) <;> refine s_alloc [(.int .i64 0), (.int .i64 0), (.slice none 0 0), (.slice none 0 0), (.slice none 0 0)] 5 5 tZr25_LfO fun h5 => ?_ <;> refine aL_end (back _ (nrm ?_)) <;> (refine aD_one 13 (by kernel_rfl) ?_) <;> (refine aW_run rfl fun w9 M9 N9 DQ back => ?_) <;> (refine s_sta 5 (m := 5) (by kernel_rfl) ?_ (h1 := by show (List.all [pInt (a.n + 1), pInt a.syms, pInts [a.n], pInts [a.n], PV.val v26] En.one) = true; simp only [List.all_cons, List.all_nil, Bool.and_true, Bool.and_eq_true]; exact ⟨rfl, rfl, rfl, rfl, ho26⟩)) <;> refine aL_end (back _ (nrm ?_)) <;> refine aD_end (by kernel_rfl) (nav ?_)))))); rotate_right; (focus ((refine aW_run rfl fun w9 M9 N9 DQ back => ?_) <;> (refine s_lit1 (kk := 1) 21 tEl22_LfO fun h21 ho21 => ?_; refine aL_ent (En.freeze (l := 21) (t := 21) rfl rfl) fun _ => ?_; rw [show share (PV.own 3 1 1 [PV.val (.int .i64 a.n)]) = pInts [a.n] from rfl]) <;> refine aL_end (back _ (nrm ?_)) <;> (refine aD_two 10 12 (by kernel_rfl) ?_ ?_; rotate_right; (focus ((refine aW_run rfl fun w9 M9 N9 DQ back => ?_) <;> refine s_alloc [(.int .i64 0), (.int .i64 0), (.slice none 0 0), (.slice none 0 0), (.slice none 0 0)] 5 5 tZr25_LfO fun h5 => ?_ <;> refine aL_end (back _ (nrm ?_)) <;> (refine aD_one 10 (by kernel_rfl) ?_) <;> (refine aW_run rfl fun w9 M9 N9 DQ back => ?_) <;> refine cO 26 (cA Tryz.call96 (cloneMv_e a.moves (by omega))) fun v26 ho26 => ?_ <;> refine aL_end (back _ (nrm ?_)) <;> refine xE 11 27 rfl (q_build tSt25_LfO) ?_ <;> (refine aD_one 13 (by kernel_rfl) ?_) <;> (refine aW_run rfl fun w9 M9 N9 DQ back => ?_) <;> (refine s_sta 5 (m := 5) (by kernel_rfl) ?_ (h1 := by show (List.all [pInt (a.n + 1), pInt a.syms, pInts [a.n], pInts [a.n], PV.val v26] En.one) = true; simp only [List.all_cons, List.all_nil, Bool.and_true, Bool.and_eq_true]; exact ⟨rfl, rfl, rfl, rfl, ho26⟩)) <;> refine aL_end (back _ (nrm ?_)) <;> refine aD_end (by kernel_rfl) (nav ?_))); rotate_right; (focus ((refine aW_run rfl fun w9 M9 N9 DQ back => ?_) <;> refine cO 26 (cA Tryz.call96 (cloneMv_e a.moves (by omega))) fun v26 ho26 => ?_ <;> refine aL_end (back _ (nrm ?_)) <;> refine xD 11 27 rfl (q_build tSt25_LfO) ?_ <;> (refine aD_one 12 (by kernel_rfl) ?_) <;> (refine aW_run rfl fun w9 M9 N9 DQ back => ?_) <;> refine s_alloc [(.int .i64 0), (.int .i64 0), (.slice none 0 0), (.slice none 0 0), (.slice none 0 0)] 5 5 tZr25_LfO fun h5 => ?_ <;> refine aL_end (back _ (nrm ?_)) <;> (refine aD_one 13 (by kernel_rfl) ?_) <;> (refine aW_run rfl fun w9 M9 N9 DQ back => ?_) <;> (refine s_sta 5 (m := 5) (by kernel_rfl) ?_ (h1 := by show (List.all [pInt (a.n + 1), pInt a.syms, pInts [a.n], pInts [a.n], PV.val v26] En.one) = true; simp only [List.all_cons, List.all_nil, Bool.and_true, Bool.and_eq_true]; exact ⟨rfl, rfl, rfl, rfl, ho26⟩)) <;> refine aL_end (back _ (nrm ?_)) <;> refine aD_end (by kernel_rfl) (nav ?_))))))))); rotate_right; (focus ((refine aW_run rfl fun w9 M9 N9 DQ back => ?_) <;> (refine s_lit1 (kk := 1) 21 tEl22_LfO fun h21 ho21 => ?_; refine aL_ent (En.freeze (l := 21) (t := 21) rfl rfl) fun _ => ?_; rw [show share (PV.own 3 1 1 [PV.val (.int .i64 a.n)]) = pInts [a.n] from rfl]) <;> refine aL_end (back _ (nrm ?_)) <;> (refine aD_three 7 10 12 (by kernel_rfl) ?_ ?_ ?_; rotate_right; (focus ((refine aW_run rfl fun w9 M9 N9 DQ back => ?_) <;> refine s_alloc [(.int .i64 0), (.int .i64 0), (.slice none 0 0), (.slice none 0 0), (.slice none 0 0)] 5 5 tZr25_LfO fun h5 => ?_ <;> refine aL_end (back _ (nrm ?_)) <;> (refine aD_two 7 10 (by kernel_rfl) ?_ ?_; rotate_right; (focus ((refine aW_run rfl fun w9 M9 N9 DQ back => ?_) <;> refine cO 26 (cA Tryz.call96 (cloneMv_e a.moves (by omega))) fun v26 ho26 => ?_ <;> refine aL_end (back _ (nrm ?_)) <;> (refine aD_one 7 (by kernel_rfl) ?_) <;> (refine aW_run rfl fun w9 M9 N9 DQ back => ?_) <;> (refine s_lit1 (kk := 1) 23 tEl22_LfO fun h23 ho23 => ?_; refine aL_ent (En.freeze (l := 23) (t := 23) rfl rfl) fun _ => ?_; rw [show share (PV.own 3 1 1 [PV.val (.int .i64 a.n)]) = pInts [a.n] from rfl]) <;> refine aL_end (back _ (nrm ?_)) <;> refine xE 11 27 rfl (q_build tSt25_LfO) ?_ <;> (refine aD_one 13 (by kernel_rfl) ?_) <;> (refine aW_run rfl fun w9 M9 N9 DQ back => ?_) <;> (refine s_sta 5 (m := 5) (by kernel_rfl) ?_ (h1 := by show (List.all [pInt (a.n + 1), pInt a.syms, pInts [a.n], pInts [a.n], PV.val v26] En.one) = true; simp only [List.all_cons, List.all_nil, Bool.and_true, Bool.and_eq_true]; exact ⟨rfl, rfl, rfl, rfl, ho26⟩)) <;> refine aL_end (back _ (nrm ?_)) <;> refine aD_end (by kernel_rfl) (nav ?_))); rotate_right; (focus ((refine aW_run rfl fun w9 M9 N9 DQ back => ?_) <;> (refine s_lit1 (kk := 1) 23 tEl22_LfO fun h23 ho23 => ?_; refine aL_ent (En.freeze (l := 23) (t := 23) rfl rfl) fun _ => ?_; rw [show share (PV.own 3 1 1 [PV.val (.int .i64 a.n)]) = pInts [a.n] from rfl]) <;> refine aL_end (back _ (nrm ?_)) <;> (refine aD_one 10 (by kernel_rfl) ?_) <;> (refine aW_run rfl fun w9 M9 N9 DQ back => ?_) <;> refine cO 26 (cA Tryz.call96 (cloneMv_e a.moves (by omega))) fun v26 ho26 => ?_ <;> refine aL_end (back _ (nrm ?_)) <;> refine xE 11 27 rfl (q_build tSt25_LfO) ?_ <;> (refine aD_one 13 (by kernel_rfl) ?_) <;> (refine aW_run rfl fun w9 M9 N9 DQ back => ?_) <;> (refine s_sta 5 (m := 5) (by kernel_rfl) ?_ (h1 := by show (List.all [pInt (a.n + 1), pInt a.syms, pInts [a.n], pInts [a.n], PV.val v26] En.one) = true; simp only [List.all_cons, List.all_nil, Bool.and_true, Bool.and_eq_true]; exact ⟨rfl, rfl, rfl, rfl, ho26⟩)) <;> refine aL_end (back _ (nrm ?_)) <;> refine aD_end (by kernel_rfl) (nav ?_)))))); rotate_right; (focus ((refine aW_run rfl fun w9 M9 N9 DQ back => ?_) <;> refine cO 26 (cA Tryz.call96 (cloneMv_e a.moves (by omega))) fun v26 ho26 => ?_ <;> refine aL_end (back _ (nrm ?_)) <;> (refine aD_two 7 12 (by kernel_rfl) ?_ ?_; rotate_right; (focus ((refine aW_run rfl fun w9 M9 N9 DQ back => ?_) <;> refine s_alloc [(.int .i64 0), (.int .i64 0), (.slice none 0 0), (.slice none 0 0), (.slice none 0 0)] 5 5 tZr25_LfO fun h5 => ?_ <;> refine aL_end (back _ (nrm ?_)) <;> (refine aD_one 7 (by kernel_rfl) ?_) <;> (refine aW_run rfl fun w9 M9 N9 DQ back => ?_) <;> (refine s_lit1 (kk := 1) 23 tEl22_LfO fun h23 ho23 => ?_; refine aL_ent (En.freeze (l := 23) (t := 23) rfl rfl) fun _ => ?_; rw [show share (PV.own 3 1 1 [PV.val (.int .i64 a.n)]) = pInts [a.n] from rfl]) <;> refine aL_end (back _ (nrm ?_)) <;> refine xE 11 27 rfl (q_build tSt25_LfO) ?_ <;> (refine aD_one 13 (by kernel_rfl) ?_) <;> (refine aW_run rfl fun w9 M9 N9 DQ back => ?_) <;> (refine s_sta 5 (m := 5) (by kernel_rfl) ?_ (h1 := by show (List.all [pInt (a.n + 1), pInt a.syms, pInts [a.n], pInts [a.n], PV.val v26] En.one) = true; simp only [List.all_cons, List.all_nil, Bool.and_true, Bool.and_eq_true]; exact ⟨rfl, rfl, rfl, rfl, ho26⟩)) <;> refine aL_end (back _ (nrm ?_)) <;> refine aD_end (by kernel_rfl) (nav ?_))); rotate_right; (focus ((refine aW_run rfl fun w9 M9 N9 DQ back => ?_) <;> (refine s_lit1 (kk := 1) 23 tEl22_LfO fun h23 ho23 => ?_; refine aL_ent (En.freeze (l := 23) (t := 23) rfl rfl) fun _ => ?_; rw [show share (PV.own 3 1 1 [PV.val (.int .i64 a.n)]) = pInts [a.n] from rfl]) <;> refine aL_end (back _ (nrm ?_)) <;> refine xD 11 27 rfl (q_build tSt25_LfO) ?_ <;> (refine aD_one 12 (by kernel_rfl) ?_) <;> (refine aW_run rfl fun w9 M9 N9 DQ back => ?_) <;> refine s_alloc [(.int .i64 0), (.int .i64 0), (.slice none 0 0), (.slice none 0 0), (.slice none 0 0)] 5 5 tZr25_LfO fun h5 => ?_ <;> refine aL_end (back _ (nrm ?_)) <;> (refine aD_one 13 (by kernel_rfl) ?_) <;> (refine aW_run rfl fun w9 M9 N9 DQ back => ?_) <;> (refine s_sta 5 (m := 5) (by kernel_rfl) ?_ (h1 := by show (List.all [pInt (a.n + 1), pInt a.syms, pInts [a.n], pInts [a.n], PV.val v26] En.one) = true; simp only [List.all_cons, List.all_nil, Bool.and_true, Bool.and_eq_true]; exact ⟨rfl, rfl, rfl, rfl, ho26⟩)) <;> refine aL_end (back _ (nrm ?_)) <;> refine aD_end (by kernel_rfl) (nav ?_)))))); rotate_right; (focus ((refine aW_run rfl fun w9 M9 N9 DQ back => ?_) <;> (refine s_lit1 (kk := 1) 23 tEl22_LfO fun h23 ho23 => ?_; refine aL_ent (En.freeze (l := 23) (t := 23) rfl rfl) fun _ => ?_; rw [show share (PV.own 3 1 1 [PV.val (.int .i64 a.n)]) = pInts [a.n] from rfl]) <;> refine aL_end (back _ (nrm ?_)) <;> (refine aD_two 10 12 (by kernel_rfl) ?_ ?_; rotate_right; (focus ((refine aW_run rfl fun w9 M9 N9 DQ back => ?_) <;> refine s_alloc [(.int .i64 0), (.int .i64 0), (.slice none 0 0), (.slice none 0 0), (.slice none 0 0)] 5 5 tZr25_LfO fun h5 => ?_ <;> refine aL_end (back _ (nrm ?_)) <;> (refine aD_one 10 (by kernel_rfl) ?_) <;> (refine aW_run rfl fun w9 M9 N9 DQ back => ?_) <;> refine cO 26 (cA Tryz.call96 (cloneMv_e a.moves (by omega))) fun v26 ho26 => ?_ <;> refine aL_end (back _ (nrm ?_)) <;> refine xE 11 27 rfl (q_build tSt25_LfO) ?_ <;> (refine aD_one 13 (by kernel_rfl) ?_) <;> (refine aW_run rfl fun w9 M9 N9 DQ back => ?_) <;> (refine s_sta 5 (m := 5) (by kernel_rfl) ?_ (h1 := by show (List.all [pInt (a.n + 1), pInt a.syms, pInts [a.n], pInts [a.n], PV.val v26] En.one) = true; simp only [List.all_cons, List.all_nil, Bool.and_true, Bool.and_eq_true]; exact ⟨rfl, rfl, rfl, rfl, ho26⟩)) <;> refine aL_end (back _ (nrm ?_)) <;> refine aD_end (by kernel_rfl) (nav ?_))); rotate_right; (focus ((refine aW_run rfl fun w9 M9 N9 DQ back => ?_) <;> refine cO 26 (cA Tryz.call96 (cloneMv_e a.moves (by omega))) fun v26 ho26 => ?_ <;> refine aL_end (back _ (nrm ?_)) <;> refine xD 11 27 rfl (q_build tSt25_LfO) ?_ <;> (refine aD_one 12 (by kernel_rfl) ?_) <;> (refine aW_run rfl fun w9 M9 N9 DQ back => ?_) <;> refine s_alloc [(.int .i64 0), (.int .i64 0), (.slice none 0 0), (.slice none 0 0), (.slice none 0 0)] 5 5 tZr25_LfO fun h5 => ?_ <;> refine aL_end (back _ (nrm ?_)) <;> (refine aD_one 13 (by kernel_rfl) ?_) <;> (refine aW_run rfl fun w9 M9 N9 DQ back => ?_) <;> (refine s_sta 5 (m := 5) (by kernel_rfl) ?_ (h1 := by show (List.all [pInt (a.n + 1), pInt a.syms, pInts [a.n], pInts [a.n], PV.val v26] En.one) = true; simp only [List.all_cons, List.all_nil, Bool.and_true, Bool.and_eq_true]; exact ⟨rfl, rfl, rfl, rfl, ho26⟩)) <;> refine aL_end (back _ (nrm ?_)) <;> refine aD_end (by kernel_rfl) (nav ?_))))))))))
        <;> try dsimp only) <;> (
       exact aN_join ⟨(v26, h5), ho26⟩ ⟨rfl, rfl, rfl, rfl, trivial⟩ ⟨rfl, rfl, rfl, rfl, trivial⟩)
    · rintro ⟨⟨v26, h5⟩, ho26⟩
      dsimp only at ho26 ⊢
      refine aC_ent (relabel (l := 26) 301 rfl rfl) fun _ => ?_
      refine aC_ent (recast (l := 301) (p' := .own 72 3 (a.moves ++ stMv a.n (a.start.take 0)).length ((a.moves ++ stMv a.n (a.start.take 0)).flatMap cMv)) rfl (by rw [show stMv a.n (a.start.take 0) = [] from rfl, List.append_nil])) fun _ => ?_
      refine nav ?_
      (refine aC_region ?_
        <;> refine xL 28 (q_fldo 1 tFl25_2_LfO) ?_
        <;> (refine yL 29 (q_ldo 1 tNa22_LfO) fun v29 hv29 => ?_; cases hv29)
        <;> refine xL 30 (q_len tSl22_LfO) ?_
        <;> refine xL 31 q_move ?_
        <;> refine aL_end (nav ?_) <;> try dsimp only)
      refine aC_loop (ι := { q : Nat × Value // q.1 ≤ a.start.length ∧ q.2.oneCell' = true }) (fun k => ⟨[(1, _, _), (2, _, _), (4, _, _), (5, _, _), (29, _, _), (30, _, _), (31, .int .i64 k.1.1, pInt k.1.1)], [(1, _, _), (2, _, _), (5, h5, .own 25 5 1 [pInt (a.n + 1), pInt a.syms, pInts [a.n], pInts [a.n], .val k.1.2]), (301, k.1.2, .own 72 3 (a.moves ++ stMv a.n (a.start.take k.1.1)).length ((a.moves ++ stMv a.n (a.start.take k.1.1)).flatMap cMv))]⟩) (fun k => a.start.length - k.1.1) ⟨(0, v26), Nat.zero_le _, ho26⟩ (fun a w H => H.weaken ⟨rfl, rfl, rfl, rfl, rfl, rfl, rfl, trivial⟩ ⟨rfl, rfl, rfl, rfl, trivial⟩) ?_
      rintro ⟨⟨k, hM⟩, hk, hMo⟩
      dsimp only
      dsimp only at hk hMo
      have hl1 : (a.moves ++ stMv a.n (a.start.take k)).length ≤ 30000 := by unfold stMv; rw [List.length_append, List.length_map, List.length_take]; omega
      refine nav ?_
      (refine aC_region ?_
        <;> refine xL 32 q_lss ?_
        <;> refine aL_end (nav ?_) <;> try dsimp only)
      first | refine cCd (fun hb32 => ?_) (fun hb32 => ?_) | refine cC (fun hb32 => ?_) (fun hb32 => ?_)
      · first
        | exact Bool.noConfusion hb32
        | (
         obtain ⟨x, hx⟩ := get_some (show k < a.start.length by omega)
         have e1 := map_at (f := pInt) hx
         refine nav ?_
         (refine aC_region ?_
           <;> refine xL 33 (q_idxN tSl22_LfO) ?_
           <;> (refine yL 34 (q_ld tNa3_LfO) fun v34 hv34 => ?_; cases hv34)
           <;> refine xL 7 q_assign ?_
           <;> refine aL_end (nav ?_) <;> try dsimp only)
         (refine aC_region ?_
           <;> refine xL 35 (q_fldo 5 tFl25_4_LfO) ?_
           <;> (refine yL 36 (q_ldo 5 tNa23_LfO) fun v36 hv36 => ?_; cases hv36)
           <;> refine xL 37 q_move ?_
           <;> refine xL 38 q_move ?_
           <;> refine xL 39 (q_build tSt72_LfO) ?_
           <;> refine s_lit1a 40 tEl23_LfO fun h40 ho40 => ?_
           <;> (refine s_app 301 40 41 tEl23_LfO fun h41 ho41 => ?_; refine aL_ent (relabel (l := 41) 301 rfl rfl) fun _ => ?_; refine aL_ent (recast (l := 301) rfl ((snoc_mv _ (a.moves ++ stMv a.n (a.start.take k)) ⟨a.n, x, -1⟩).trans (by rw [List.append_assoc, ← stMv_snoc a.n hx]))) fun _ => ?_)
           <;> refine xL 42 (q_fldo 5 tFl25_4_LfO) ?_
           <;> refine s_st 5 tNa23_LfO tSz23_LfO ?_
           <;> refine aL_end (nav ?_) <;> try dsimp only)
         (refine aC_region ?_
           <;> refine xL 43 q_add ?_
           <;> refine xL 31 q_move ?_
           <;> refine aL_end (nav ?_) <;> try dsimp only)
         refine aN_again (
           ⟨(k + 1, h41), lt_of_get hx, ho41⟩
           ) (by dsimp only; omega) ⟨rfl, rfl, rfl, rfl, rfl, rfl, rfl, trivial⟩ ⟨rfl, rfl, rfl, rfl, trivial⟩)
      · first
        | exact Bool.noConfusion hb32
        | (
         rw [List.take_of_length_le (show a.start.length ≤ k by omega)]
         rw [show a.moves ++ stMv a.n a.start = a.moves ++ stMv a.n a.start ++ fiMv a.n (a.fin.take 0) from (List.append_nil _).symm]
         refine nav ?_
         (refine aC_region ?_
           <;> refine xL 44 (q_fldo 1 tFl25_3_LfO) ?_
           <;> (refine yL 45 (q_ldo 1 tNa22_LfO) fun v45 hv45 => ?_; cases hv45)
           <;> refine xL 46 (q_len tSl22_LfO) ?_
           <;> refine xL 47 q_move ?_
           <;> refine aL_end (nav ?_) <;> try dsimp only)
         refine aC_loop (ι := { q : Nat × Value // q.1 ≤ a.fin.length ∧ q.2.oneCell' = true }) (fun k => ⟨[(1, _, _), (2, _, _), (4, _, _), (5, _, _), (45, _, _), (46, _, _), (47, .int .i64 k.1.1, pInt k.1.1)], [(1, _, _), (2, _, _), (5, h5, .own 25 5 1 [pInt (a.n + 1), pInt a.syms, pInts [a.n], pInts [a.n], .val k.1.2]), (301, k.1.2, .own 72 3 (a.moves ++ stMv a.n a.start ++ fiMv a.n (a.fin.take k.1.1)).length ((a.moves ++ stMv a.n a.start ++ fiMv a.n (a.fin.take k.1.1)).flatMap cMv))]⟩) (fun k => a.fin.length - k.1.1) ⟨(0, hM), Nat.zero_le _, hMo⟩ (fun a w H => H.weaken ⟨rfl, rfl, rfl, rfl, rfl, rfl, rfl, trivial⟩ ⟨rfl, rfl, rfl, rfl, trivial⟩) ?_
         rintro ⟨⟨j, hM2⟩, hj, hM2o⟩
         dsimp only
         dsimp only at hj hM2o
         have hl2 : (a.moves ++ stMv a.n a.start ++ fiMv a.n (a.fin.take j)).length ≤ 30000 := by unfold stMv fiMv; rw [List.length_append, List.length_append, List.length_map, List.length_map, List.length_take]; omega
         refine nav ?_
         (refine aC_region ?_
           <;> refine xL 48 q_lss ?_
           <;> refine aL_end (nav ?_) <;> try dsimp only)
         first | refine cCd (fun hb48 => ?_) (fun hb48 => ?_) | refine cC (fun hb48 => ?_) (fun hb48 => ?_)
         · first
           | exact Bool.noConfusion hb48
           | (
            obtain ⟨y, hy⟩ := get_some (show j < a.fin.length by omega)
            have e1 := map_at (f := pInt) hy
            refine nav ?_
            (refine aC_region ?_
              <;> refine xL 49 (q_idxN tSl22_LfO) ?_
              <;> (refine yL 50 (q_ld tNa3_LfO) fun v50 hv50 => ?_; cases hv50)
              <;> refine xL 9 q_assign ?_
              <;> refine aL_end (nav ?_) <;> try dsimp only)
            (refine aC_region ?_
              <;> refine xL 51 (q_fldo 5 tFl25_4_LfO) ?_
              <;> (refine yL 52 (q_ldo 5 tNa23_LfO) fun v52 hv52 => ?_; cases hv52)
              <;> refine xL 53 q_move ?_
              <;> refine xL 54 q_move ?_
              <;> refine xL 55 (q_build tSt72_LfO) ?_
              <;> refine s_lit1a 56 tEl23_LfO fun h56 ho56 => ?_
              <;> (refine s_app 301 56 57 tEl23_LfO fun h57 ho57 => ?_; refine aL_ent (relabel (l := 57) 301 rfl rfl) fun _ => ?_; refine aL_ent (recast (l := 301) rfl ((snoc_mv _ (a.moves ++ stMv a.n a.start ++ fiMv a.n (a.fin.take j)) ⟨y, a.n, -1⟩).trans (by rw [List.append_assoc (a.moves ++ stMv a.n a.start), ← fiMv_snoc a.n hy]))) fun _ => ?_)
              <;> refine xL 58 (q_fldo 5 tFl25_4_LfO) ?_
              <;> refine s_st 5 tNa23_LfO tSz23_LfO ?_
              <;> refine aL_end (nav ?_) <;> try dsimp only)
            (refine aC_region ?_
              <;> refine xL 59 q_add ?_
              <;> refine xL 47 q_move ?_
              <;> refine aL_end (nav ?_) <;> try dsimp only)
            refine aN_again (
              ⟨(j + 1, h57), lt_of_get hy, ho57⟩
              ) (by dsimp only; omega) ⟨rfl, rfl, rfl, rfl, rfl, rfl, rfl, trivial⟩ ⟨rfl, rfl, rfl, rfl, trivial⟩)
         · first
           | exact Bool.noConfusion hb48
           | (
            rw [List.take_of_length_le (show a.fin.length ≤ j by omega)]
            have hone : En.one (PV.val hM2) = true := hM2o
            refine nav ?_
            refine aC_ent (relabel (l := 301) 1000 rfl rfl) fun _ => ?_
            (refine aC_region ?_
              <;> (refine yL 60 (q_ldao (k := 5) (ps := [pInt (a.n + 1), pInt a.syms, pInts [a.n], pInts [a.n], PV.val hM2]) 5 (by kernel_rfl)) fun v60 hv60 => ?_; cases hv60)
              <;> (refine aL_heap [(1000, hM2, PV.own 72 3 (starA a).moves.length ((starA a).moves.flatMap cMv)), (1, _, _), (2, _, _), (5, _, _)] ⟨rfl, rfl, rfl, rfl, trivial⟩ ?_; refine aL_ch [1, 2, 5] 61 (Tryz.call88) (aMade_ok (starA a) (star_len h.toAOk) (star_nodup h) _ hM2 hM2o hr) ?_; rintro _ _ _ ⟨⟨V1, rfl⟩, rfl, rfl⟩)
              <;> refine xL 62 q_extract ?_
              <;> refine xL 63 q_extract ?_
              <;> refine s_sta 2 tAgg25_LfO ?_
              <;> refine xL 3 q_assign ?_
              <;> refine aL_end (nav ?_) <;> try dsimp only)
            exact ret_cs (k := 5) 2 (by kernel_rfl) (Tryz.results44) rfl rfl rfl (Nat.le_of_ble_eq_true rfl) (by decide) rfl rfl))
set_option maxHeartbeats 1000000 in
theorem aStar_err (a : Aut) (hv : autOk a = true) {e : Int} (hr : AF Tryz.prog 83 [pAut (mkA (starA a))] (· = .tup [rawZ, pInt e])) : AF Tryz.prog 44 [pAut a] (· = .tup [rawZ, pInt e]) := by
  have h := vok_of hv
  have hn0 := h.n0
  have hn1 := h.n1
  have hml := h.ml
  have hsl := h.sl
  have hfl := h.fl
  refine AF.of_body 64 Tryz.func44 rfl Tryz.ntmps44 (Nat.le_of_ble_eq_true rfl) ?_
  intro w0 M0 vs hl hv
  obtain ⟨v0, rfl⟩ := len1 hl
  clear hl hv
  refine nav ?_
  (refine aC_region ?_
    <;> refine s_boxa 1 5 fun h1 => ?_
    <;> refine s_alloc [(.int .i64 0), (.int .i64 0), (.slice none 0 0), (.slice none 0 0), (.slice none 0 0)] 5 2 tZr25_LfO fun h2 => ?_
    <;> refine xL 3 q_assign ?_
    <;> refine aL_end (nav ?_) <;> try dsimp only)
  (refine aC_region ?_
    <;> (refine yL 10 (q_ldao 1 tAgg25_LfO) fun v10 hv10 => ?_; cases hv10)
    <;> (refine cS 11 (cA Tryz.call24 (aValid_e a)) fun v11 hv11 => ?_; cases hv11)
    <;> refine xL 12 q_not ?_
    <;> refine aL_end (nav ?_) <;> try dsimp only)
  first | refine cCd (fun hb12 => ?_) (fun hb12 => ?_) | refine cC (fun hb12 => ?_) (fun hb12 => ?_)
  · rw [hv] at hb12; simp at hb12
  · refine nav ?_
    (refine aC_region ?_
      <;> refine xL 14 (q_fldo 1 tFl25_0_LfO) ?_
      <;> (refine yL 15 (q_ldo 1 tNa3_LfO) fun v15 hv15 => ?_; cases hv15)
      <;> refine xL 4 q_assign ?_
      <;> refine aL_end (nav ?_) <;> try dsimp only)
    refine aC_mid (fun x : { x : Value × Value // x.1.oneCell' = true } => ⟨[(1, padd (sbase h1) 0, .val (padd (sbase h1) 0)), (2, padd (sbase h2) 0, .val (padd (sbase h2) 0)), (4, .int .i64 a.n, pInt a.n), (5, padd (sbase x.1.2) 0, .val (padd (sbase x.1.2) 0))], [(1, h1, .own 25 5 1 [pInt a.n, pInt a.syms, pInts a.start, pInts a.fin, pMvs a.moves]), (2, h2, .own 25 5 1 [pInt 0, pInt 0, .val (.slice none 0 0), .val (.slice none 0 0), .val (.slice none 0 0)]), (5, x.1.2, .own 25 5 1 [pInt (a.n + 1), pInt a.syms, pInts [a.n], pInts [a.n], .val x.1.1]), (26, x.1.1, .own 72 3 a.moves.length (a.moves.flatMap cMv))]⟩) ?_ ?_
    · (refine aC_draw (fun i => ([] : List Nat).elem i) [1] (by kernel_rfl) ?_
        <;> refine xD 0 16 rfl q_move ?_
        <;> refine xD 1 17 rfl q_add ?_
        <;> refine xD 2 18 rfl (q_fldo 1 tFl25_1_LfO) ?_
        <;> (refine yD 3 19 rfl (q_ldo 1 tNa3_LfO) fun v19 hv19 => ?_; cases hv19)
        <;> refine xD 4 20 rfl q_move ?_
        <;> refine xD 6 22 rfl q_move ?_
        <;> refine xD 8 24 rfl (q_fldo 1 tFl25_4_LfO) ?_
        <;> (refine yD 9 25 rfl (q_ldo 1 tNa23_LfO) fun v25 hv25 => ?_; cases hv25)
        <;> (refine aD_four 5 7 10 12 (by kernel_rfl) ?_ ?_ ?_ ?_; rotate_right; (focus ((refine aW_run rfl fun w9 M9 N9 DQ back => ?_) <;> refine s_alloc [(.int .i64 0), (.int .i64 0), (.slice none 0 0), (.slice none 0 0), (.slice none 0 0)] 5 5 tZr25_LfO fun h5 => ?_ <;> refine aL_end (back _ (nrm ?_)) <;> (refine aD_three 5 7 10 (by kernel_rfl) ?_ ?_ ?_; rotate_right; (focus ((refine aW_run rfl fun w9 M9 N9 DQ back => ?_) <;> refine cO 26 (cA Tryz.call96 (cloneMv_e a.moves (by omega))) fun v26 ho26 => ?_ <;> refine aL_end (back _ (nrm ?_)) <;> (refine aD_two 5 7 (by kernel_rfl) ?_ ?_; rotate_right; (focus ((refine aW_run rfl fun w9 M9 N9 DQ back => ?_) <;> (refine s_lit1 (kk := 1) 23 tEl22_LfO fun h23 ho23 => ?_; refine aL_ent (En.freeze (l := 23) (t := 23) rfl rfl) fun _ => ?_; rw [show share (PV.own 3 1 1 [PV.val (.int .i64 a.n)]) = pInts [a.n] from rfl]) <;> refine aL_end (back _ (nrm ?_)) <;> (refine aD_one 5 (by kernel_rfl) ?_) <;> (refine aW_run rfl fun w9 M9 N9 DQ back => ?_) <;> (refine s_lit1 (kk := 1) 21 tEl22_LfO fun h21 ho21 => ?_; refine aL_ent (En.freeze (l := 21) (t := 21) rfl rfl) fun _ => ?_; rw [show share (PV.own 3 1 1 [PV.val (.int .i64 a.n)]) = pInts [a.n] from rfl]) <;> refine aL_end (back _ (nrm ?_)) <;> refine xE 11 27 rfl (q_build tSt25_LfO) ?_ <;> (refine aD_one 13 (by kernel_rfl) ?_) <;> (refine aW_run rfl fun w9 M9 N9 DQ back => ?_) <;> (refine s_sta 5 (m := 5) (by kernel_rfl) ?_ (h1 := by show (List.all [pInt (a.n + 1), pInt a.syms, pInts [a.n], pInts [a.n], PV.val v26] En.one) = true; simp only [List.all_cons, List.all_nil, Bool.and_true, Bool.and_eq_true]; exact ⟨rfl, rfl, rfl, rfl, ho26⟩)) <;> refine aL_end (back _ (nrm ?_)) <;> refine aD_end (by kernel_rfl) (nav ?_))); rotate_right; (focus ((refine aW_run rfl fun w9 M9 N9 DQ back => ?_) <;> (refine s_lit1 (kk := 1) 21 tEl22_LfO fun h21 ho21 => ?_; refine aL_ent (En.freeze (l := 21) (t := 21) rfl rfl) fun _ => ?_; rw [show share (PV.own 3 1 1 [PV.val (.int .i64 a.n)]) = pInts [a.n] from rfl]) <;> refine aL_end (back _ (nrm ?_)) <;> (refine aD_one 7 (by kernel_rfl) ?_) <;> (refine aW_run rfl fun w9 M9 N9 DQ back => ?_) <;> (refine s_lit1 (kk := 1) 23 tEl22_LfO fun h23 ho23 => ?_; refine aL_ent (En.freeze (l := 23) (t := 23) rfl rfl) fun _ => ?_; rw [show share (PV.own 3 1 1 [PV.val (.int .i64 a.n)]) = pInts [a.n] from rfl]) <;> refine aL_end (back _ (nrm ?_)) <;> refine xE 11 27 rfl (q_build tSt25_LfO) ?_ <;> (refine aD_one 13 (by kernel_rfl) ?_) <;> (refine aW_run rfl fun w9 M9 N9 DQ back => ?_) <;> (refine s_sta 5 (m := 5) (by kernel_rfl) ?_ (h1 := by show (List.all [pInt (a.n + 1), pInt a.syms, pInts [a.n], pInts [a.n], PV.val v26] En.one) = true; simp only [List.all_cons, List.all_nil, Bool.and_true, Bool.and_eq_true]; exact ⟨rfl, rfl, rfl, rfl, ho26⟩)) <;> refine aL_end (back _ (nrm ?_)) <;> refine aD_end (by kernel_rfl) (nav ?_)))))); rotate_right; (focus ((refine aW_run rfl fun w9 M9 N9 DQ back => ?_) <;> (refine s_lit1 (kk := 1) 23 tEl22_LfO fun h23 ho23 => ?_; refine aL_ent (En.freeze (l := 23) (t := 23) rfl rfl) fun _ => ?_; rw [show share (PV.own 3 1 1 [PV.val (.int .i64 a.n)]) = pInts [a.n] from rfl]) <;> refine aL_end (back _ (nrm ?_)) <;> (refine aD_two 5 10 (by kernel_rfl) ?_ ?_; rotate_right; (focus ((refine aW_run rfl fun w9 M9 N9 DQ back => ?_) <;> refine cO 26 (cA Tryz.call96 (cloneMv_e a.moves (by omega))) fun v26 ho26 => ?_ <;> refine aL_end (back _ (nrm ?_)) <;> (refine aD_one 5 (by kernel_rfl) ?_) <;> (refine aW_run rfl fun w9 M9 N9 DQ back => ?_) <;> (refine s_lit1 (kk := 1) 21 tEl22_LfO fun h21 ho21 => ?_; refine aL_ent (En.freeze (l := 21) (t := 21) rfl rfl) fun _ => ?_; rw [show share (PV.own 3 1 1 [PV.val (.int .i64 a.n)]) = pInts [a.n] from rfl]) <;> refine aL_end (back _ (nrm ?_)) <;> refine xE 11 27 rfl (q_build tSt25_LfO) ?_ <;> (refine aD_one 13 (by kernel_rfl) ?_) <;> (refine aW_run rfl fun w9 M9 N9 DQ back => ?_) <;> (refine s_sta 5 (m := 5) (by kernel_rfl) ?_ (h1 := by show (List.all [pInt (a.n + 1), pInt a.syms, pInts [a.n], pInts [a.n], PV.val v26] En.one) = true; simp only [List.all_cons, List.all_nil, Bool.and_true, Bool.and_eq_true]; exact ⟨rfl, rfl, rfl, rfl, ho26⟩)) <;> refine aL_end (back _ (nrm ?_)) <;> refine aD_end (by kernel_rfl) (nav ?_))); rotate_right; (focus ((refine aW_run rfl fun w9 M9 N9 DQ back => ?_) <;> (refine s_lit1 (kk := 1) 21 tEl22_LfO fun h21 ho21 => ?_; refine aL_ent (En.freeze (l := 21) (t := 21) rfl rfl) fun _ => ?_; rw [show share (PV.own 3 1 1 [PV.val (.int .i64 a.n)]) = pInts [a.n] from rfl]) <;> refine aL_end (back _ (nrm ?_)) <;> (refine aD_one 10 (by kernel_rfl) ?_) <;> (refine aW_run rfl fun w9 M9 N9 DQ back => ?_) <;> refine cO 26 (cA Tryz.call96 (cloneMv_e a.moves (by omega))) fun v26 ho26 => ?_ <;> refine aL_end (back _ (nrm ?_)) <;> refine xE 11 27 rfl (q_build tSt25_LfO) ?_ <;> (refine aD_one 13 (by kernel_rfl) ?_) <;> (refine aW_run rfl fun w9 M9 N9 DQ back => ?_) <;> (refine s_sta 5 (m := 5) (by kernel_rfl) ?_ (h1 := by show (List.all [pInt (a.n + 1), pInt a.syms, pInts [a.n], pInts [a.n], PV.val v26] En.one) = true; simp only [List.all_cons, List.all_nil, Bool.and_true, Bool.and_eq_true]; exact ⟨rfl, rfl, rfl, rfl, ho26⟩)) <;> refine aL_end (back _ (nrm ?_)) <;> refine aD_end (by kernel_rfl) (nav ?_)))))); rotate_right; (focus ((refine aW_run rfl fun w9 M9 N9 DQ back => ?_) <;> (refine s_lit1 (kk := 1) 21 tEl22_LfO fun h21 ho21 => ?_; refine aL_ent (En.freeze (l := 21) (t := 21) rfl rfl) fun _ => ?_; rw [show share (PV.own 3 1 1 [PV.val (.int .i64 a.n)]) = pInts [a.n] from rfl]) <;> refine aL_end (back _ (nrm ?_)) <;> (refine aD_two 7 10 (by kernel_rfl) ?_ ?_; rotate_right; (focus ((refine aW_run rfl fun w9 M9 N9 DQ back => ?_) <;> refine cO 26 (cA Tryz.call96 (cloneMv_e a.moves (by omega))) fun v26 ho26 => ?_ <;> refine aL_end (back _ (nrm ?_)) <;> (refine aD_one 7 (by kernel_rfl) ?_) <;> (refine aW_run rfl fun w9 M9 N9 DQ back => ?_) <;> (refine s_lit1 (kk := 1) 23 tEl22_LfO fun h23 ho23 => ?_; refine aL_ent (En.freeze (l := 23) (t := 23) rfl rfl) fun _ => ?_; rw [show share (PV.own 3 1 1 [PV.val (.int .i64 a.n)]) = pInts [a.n] from rfl]) <;> refine aL_end (back _ (nrm ?_)) <;> refine xE 11 27 rfl (q_build tSt25_LfO) ?_ <;> (refine aD_one 13 (by kernel_rfl) ?_) <;> (refine aW_run rfl fun w9 M9 N9 DQ back => ?_) <;> (refine s_sta 5 (m := 5) (by kernel_rfl) ?_ (h1 := by show (List.all [pInt (a.n + 1), pInt a.syms, pInts [a.n], pInts [a.n], PV.val v26] En.one) = true; simp only [List.all_cons, List.all_nil, Bool.and_true, Bool.and_eq_true]; exact ⟨rfl, rfl, rfl, rfl, ho26⟩)) <;> refine aL_end (back _ (nrm ?_)) <;> refine aD_end (by kernel_rfl) (nav ?_))); rotate_right; (focus ((refine aW_run rfl fun w9 M9 N9 DQ back => ?_) <;> (refine s_lit1 (kk := 1) 23 tEl22_LfO fun h23 ho23 => ?_; refine aL_ent (En.freeze (l := 23) (t := 23) rfl rfl) fun _ => ?_; rw [show share (PV.own 3 1 1 [PV.val (.int .i64 a.n)]) = pInts [a.n] from rfl]) <;> refine aL_end (back _ (nrm ?_)) <;> (refine aD_one 10 (by kernel_rfl) ?_) <;> (refine aW_run rfl fun w9 M9 N9 DQ back => ?_) <;> refine cO 26 (cA Tryz.call96 (cloneMv_e a.moves (by omega))) fun v26 ho26 => ?_ <;> refine aL_end (back _ (nrm ?_)) <;> refine xE 11 27 rfl (q_build tSt25_LfO) ?_ <;> (refine aD_one 13 (by kernel_rfl) ?_) <;> (refine aW_run rfl fun w9 M9 N9 DQ back => ?_) <;> (refine s_sta 5 (m := 5) (by kernel_rfl) ?_ (h1 := by show (List.all [pInt (a.n + 1), pInt a.syms, pInts [a.n], pInts [a.n], PV.val v26] En.one) = true; simp only [List.all_cons, List.all_nil, Bool.and_true, Bool.and_eq_true]; exact ⟨rfl, rfl, rfl, rfl, ho26⟩)) <;> refine aL_end (back _ (nrm ?_)) <;> refine aD_end (by kernel_rfl) (nav ?_))))))))); rotate_right; (focus ((refine aW_run rfl fun w9 M9 N9 DQ back => ?_) <;> refine cO 26 (cA Tryz.call96 (cloneMv_e a.moves (by omega))) fun v26 ho26 => ?_ <;> refine aL_end (back _ (nrm ?_)) <;> (refine aD_three 5 7 12 (by kernel_rfl) ?_ ?_ ?_; rotate_right; (focus ((refine aW_run rfl fun w9 M9 N9 DQ back => ?_) <;> refine s_alloc [(.int .i64 0), (.int .i64 0), (.slice none 0 0), (.slice none 0 0), (.slice none 0 0)] 5 5 tZr25_LfO fun h5 => ?_ <;> refine aL_end (back _ (nrm ?_)) <;> (refine aD_two 5 7 (by kernel_rfl) ?_ ?_; rotate_right; (focus ((refine aW_run rfl fun w9 M9 N9 DQ back => ?_) <;> (refine s_lit1 (kk := 1) 23 tEl22_LfO fun h23 ho23 => ?_; refine aL_ent (En.freeze (l := 23) (t := 23) rfl rfl) fun _ => ?_; rw [show share (PV.own 3 1 1 [PV.val (.int .i64 a.n)]) = pInts [a.n] from rfl]) <;> refine aL_end (back _ (nrm ?_)) <;> (refine aD_one 5 (by kernel_rfl) ?_) <;> (refine aW_run rfl fun w9 M9 N9 DQ back => ?_) <;> (refine s_lit1 (kk := 1) 21 tEl22_LfO fun h21 ho21 => ?_; refine aL_ent (En.freeze (l := 21) (t := 21) rfl rfl) fun _ => ?_; rw [show share (PV.own 3 1 1 [PV.val (.int .i64 a.n)]) = pInts [a.n] from rfl]) <;> refine aL_end (back _ (nrm ?_)) <;> refine xE 11 27 rfl (q_build tSt25_LfO) ?_ <;> (refine aD_one 13 (by kernel_rfl) ?_) <;> (refine aW_run rfl fun w9 M9 N9 DQ back => ?_) <;> (refine s_sta 5 (m := 5) (by kernel_rfl) ?_ (h1 := by show (List.all [pInt (a.n + 1), pInt a.syms, pInts [a.n], pInts [a.n], PV.val v26] En.one) = true; simp only [List.all_cons, List.all_nil, Bool.and_true, Bool.and_eq_true]; exact ⟨rfl, rfl, rfl, rfl, ho26⟩)) <;> refine aL_end (back _ (nrm ?_)) <;> refine aD_end (by kernel_rfl) (nav ?_))); rotate_right; (focus ((refine aW_run rfl fun w9 M9 N9 DQ back => ?_) <;> (refine s_lit1 (kk := 1) 21 tEl22_LfO fun h21 ho21 => ?_; refine aL_ent (En.freeze (l := 21) (t := 21) rfl rfl) fun _ => ?_; rw [show share (PV.own 3 1 1 [PV.val (.int .i64 a.n)]) = pInts [a.n] from rfl]) <;> refine aL_end (back _ (nrm ?_)) <;> (refine aD_one 7 (by kernel_rfl) ?_) <;> (refine aW_run rfl fun w9 M9 N9 DQ back => ?_) <;> (refine s_lit1 (kk := 1) 23 tEl22_LfO fun h23 ho23 => ?_; refine aL_ent (En.freeze (l := 23) (t := 23) rfl rfl) fun _ => ?_; rw [show share (PV.own 3 1 1 [PV.val (.int .i64 a.n)]) = pInts [a.n] from rfl]) <;> refine aL_end (back _ (nrm ?_)) <;> refine xE 11 27 rfl (q_build tSt25_LfO) ?_ <;> (refine aD_one 13 (by kernel_rfl) ?_) <;> (refine aW_run rfl fun w9 M9 N9 DQ back => ?_) <;> (refine s_sta 5 (m := 5) (by kernel_rfl) ?_ (h1 := by show (List.all [pInt (a.n + 1), pInt a.syms, pInts [a.n], pInts [a.n], PV.val v26] En.one) = true; simp only [List.all_cons, List.all_nil, Bool.and_true, Bool.and_eq_true]; exact ⟨rfl, rfl, rfl, rfl, ho26⟩)) <;> refine aL_end (back _ (nrm ?_)) <;> refine aD_end (by kernel_rfl) (nav ?_)))))); rotate_right; (focus ((refine aW_run rfl fun w9 M9 N9 DQ back => ?_) <;> (refine s_lit1 (kk := 1) 23 tEl22_LfO fun h23 ho23 => ?_; refine aL_ent (En.freeze (l := 23) (t := 23) rfl rfl) fun _ => ?_; rw [show share (PV.own 3 1 1 [PV.val (.int .i64 a.n)]) = pInts [a.n] from rfl]) <;> refine aL_end (back _ (nrm ?_)) <;> (refine aD_two 5 12 (by kernel_rfl) ?_ ?_; rotate_right; (focus ((refine aW_run rfl fun w9 M9 N9 DQ back => ?_) <;> refine s_alloc [(.int .i64 0), (.int .i64 0), (.slice none 0 0), (.slice none 0 0), (.slice none 0 0)] 5 5 tZr25_LfO fun h5 => ?_ <;> refine aL_end (back _ (nrm ?_)) <;> (refine aD_one 5 (by kernel_rfl) ?_) <;> (refine aW_run rfl fun w9 M9 N9 DQ back => ?_) <;> (refine s_lit1 (kk := 1) 21 tEl22_LfO fun h21 ho21 => ?_; refine aL_ent (En.freeze (l := 21) (t := 21) rfl rfl) fun _ => ?_; rw [show share (PV.own 3 1 1 [PV.val (.int .i64 a.n)]) = pInts [a.n] from rfl]) <;> refine aL_end (back _ (nrm ?_)) <;> refine xE 11 27 rfl (q_build tSt25_LfO) ?_ <;> (refine aD_one 13 (by kernel_rfl) ?_) <;> (refine aW_run rfl fun w9 M9 N9 DQ back => ?_) <;> (refine s_sta 5 (m := 5) (by kernel_rfl) ?_ (h1 := by show (List.all [pInt (a.n + 1), pInt a.syms, pInts [a.n], pInts [a.n], PV.val v26] En.one) = true; simp only [List.all_cons, List.all_nil, Bool.and_true, Bool.and_eq_true]; exact ⟨rfl, rfl, rfl, rfl, ho26⟩)) <;> refine aL_end (back _ (nrm ?_)) <;> refine aD_end (by kernel_rfl) (nav ?_))); rotate_right; (focus ((refine aW_run rfl fun w9 M9 N9 DQ back => ?_) <;> (refine s_lit1 (kk := 1) 21 tEl22_LfO fun h21 ho21 => ?_; refine aL_ent (En.freeze (l := 21) (t := 21) rfl rfl) fun _ => ?_; rw [show share (PV.own 3 1 1 [PV.val (.int .i64 a.n)]) = pInts [a.n] from rfl]) <;> refine aL_end (back _ (nrm ?_)) <;> refine xD 11 27 rfl (q_build tSt25_LfO) ?_ <;> (refine aD_one 12 (by kernel_rfl) ?_) <;> (refine aW_run rfl fun w9 M9 N9 DQ back => ?_) <;> refine s_alloc [(.int .i64 0), (.int .i64 0), (.slice none 0 0), (.slice none 0 0), (.slice none 0 0)] 5 5 tZr25_LfO fun h5 => ?_ <;> refine aL_end (back _ (nrm ?_)) <;> (refine aD_one 13 (by kernel_rfl) ?_) <;> (refine aW_run rfl fun w9 M9 N9 DQ back => ?_) <;> (refine s_sta 5 (m := 5) (by kernel_rfl) ?_ (h1 := by show (List.all [pInt (a.n + 1), pInt a.syms, pInts [a.n], pInts [a.n], PV.val v26] En.one) = true; simp only [List.all_cons, List.all_nil, Bool.and_true, Bool.and_eq_true]; exact ⟨rfl, rfl, rfl, rfl, ho26⟩)) <;> refine aL_end (back _ (nrm ?_)) <;> refine aD_end (by kernel_rfl) (nav ?_)))))); rotate_right; (focus ((refine aW_run rfl fun w9 M9 N9 DQ back => ?_) <;> (refine s_lit1 (kk := 1) 21 tEl22_LfO fun h21 ho21 => ?_; refine aL_ent (En.freeze (l := 21) (t := 21) rfl rfl) fun _ => ?_; rw [show share (PV.own 3 1 1 [PV.val (.int .i64 a.n)]) = pInts [a.n] from rfl]) <;> refine aL_end (back _ (nrm ?_)) <;> (refine aD_two 7 12 (by kernel_rfl) ?_ ?_; rotate_right; (focus ((refine aW_run rfl fun w9 M9 N9 DQ back => ?_) <;> refine s_alloc [(.int .i64 0), (.int .i64 0), (.slice none 0 0), (.slice none 0 0), (.slice none 0 0)] 5 5 tZr25_LfO fun h5 => ?_ <;> refine aL_end (back _ (nrm ?_)) <;> (refine aD_one 7 (by kernel_rfl) ?_) <;> (refine aW_run rfl fun w9 M9 N9 DQ back => ?_) <;> (refine s_lit1 (kk := 1) 23 tEl22_LfO fun h23 ho23 => ?_; refine aL_ent (En.freeze (l := 23) (t := 23) rfl rfl) fun _ => ?_; rw [show share (PV.own 3 1 1 [PV.val (.int .i64 a.n)]) = pInts [a.n] from rfl]) <;> refine aL_end (back _ (nrm ?_)) <;> refine xE 11 27 rfl (q_build tSt25_LfO) ?_ <;> (refine aD_one 13 (by kernel_rfl) ?_) <;> (refine aW_run rfl fun w9 M9 N9 DQ back => ?_) <;> (refine s_sta 5 (m := 5) (by kernel_rfl) ?_ (h1 := by show (List.all [pInt (a.n + 1), pInt a.syms, pInts [a.n], pInts [a.n], PV.val v26] En.one) = true; simp only [List.all_cons, List.all_nil, Bool.and_true, Bool.and_eq_true]; exact ⟨rfl, rfl, rfl, rfl, ho26⟩)) <;> refine aL_end (back _ (nrm ?_)) <;> refine aD_end (by kernel_rfl) (nav ?_))); rotate_right; (focus ((refine aW_run rfl fun w9 M9 N9 DQ back => ?_) <;> (refine s_lit1 (kk := 1) 23 tEl22_LfO fun h23 ho23 => ?_; refine aL_ent (En.freeze (l := 23) (t := 23) rfl rfl) fun _ => ?_; rw [show share (PV.own 3 1 1 [PV.val (.int .i64 a.n)]) = pInts [a.n] from rfl]) <;> refine aL_end (back _ (nrm ?_)) <;> refine xD 11 27 rfl (q_build tSt25_LfO) ?_ <;> (refine aD_one 12 (by kernel_rfl) ?_) <;> (refine aW_run rfl fun w9 M9 N9 DQ back => ?_) <;> refine s_alloc [(.int .i64 0), (.int .i64 0), (.slice none 0 0), (.slice none 0 0), (.slice none 0 0)] 5 5 tZr25_LfO fun h5 => ?_ <;> refine aL_end (back _ (nrm ?_)) <;> (refine aD_one 13 (by kernel_rfl) ?_) <;> (refine aW_run rfl fun w9 M9 N9 DQ back => ?_) <;> (refine s_sta 5 (m := 5) (by kernel_rfl) ?_ (h1 := by show (List.all [pInt (a.n + 1), pInt a.syms, pInts [a.n], pInts [a.n], PV.val v26] En.one) = true; simp only [List.all_cons, List.all_nil, Bool.and_true, Bool.and_eq_true]; exact ⟨rfl, rfl, rfl, rfl, ho26⟩)) <;> refine aL_end (back _ (nrm ?_)) <;> refine aD_end (by kernel_rfl) (nav ?_))))))))); rotate_right; (focus ((refine aW_run rfl fun w9 M9 N9 DQ back => ?_) <;> (refine s_lit1 (kk := 1) 23 tEl22_LfO fun h23 ho23 => ?_; refine aL_ent (En.freeze (l := 23) (t := 23) rfl rfl) fun _ => ?_; rw [show share (PV.own 3 1 1 [PV.val (.int .i64 a.n)]) = pInts [a.n] from rfl]) <;> refine aL_end (back _ (nrm ?_)) <;> (refine aD_three 5 10 12 (by kernel_rfl) ?_ ?_ ?_; rotate_right; (focus ((refine aW_run rfl fun w9 M9 N9 DQ back => ?_) <;> refine s_alloc [(.int .i64 0), (.int .i64 0), (.slice none 0 0), (.slice none 0 0), (.slice none 0 0)] 5 5 tZr25_LfO fun h5 => ?_ <;> refine aL_end (back _ (nrm ?_)) <;> (refine aD_two 5 10 (by kernel_rfl) ?_ ?_; rotate_right; (focus ((refine aW_run rfl fun w9 M9 N9 DQ back => ?_) <;> refine cO 26 (cA Tryz.call96 (cloneMv_e a.moves (by omega))) fun v26 ho26 => ?_ <;> refine aL_end (back _ (nrm ?_)) <;> (refine aD_one 5 (by kernel_rfl) ?_) <;> (refine aW_run rfl fun w9 M9 N9 DQ back => ?_) <;> (refine s_lit1 (kk := 1) 21 tEl22_LfO fun h21 ho21 => ?_; refine aL_ent (En.freeze (l := 21) (t := 21) rfl rfl) fun _ => ?_; rw [show share (PV.own 3 1 1 [PV.val (.int .i64 a.n)]) = pInts [a.n] from rfl]) <;> refine aL_end (back _ (nrm ?_)) <;> refine xE 11 27 rfl (q_build tSt25_LfO) ?_ <;> (refine aD_one 13 (by kernel_rfl) ?_) <;> (refine aW_run rfl fun w9 M9 N9 DQ back => ?_) <;> (refine s_sta 5 (m := 5) (by kernel_rfl) ?_ (h1 := by show (List.all [pInt (a.n + 1), pInt a.syms, pInts [a.n], pInts [a.n], PV.val v26] En.one) = true; simp only [List.all_cons, List.all_nil, Bool.and_true, Bool.and_eq_true]; exact ⟨rfl, rfl, rfl, rfl, ho26⟩)) <;> refine aL_end (back _ (nrm ?_)) <;> refine aD_end (by kernel_rfl) (nav ?_))); rotate_right; (focus ((refine aW_run rfl fun w9 M9 N9 DQ back => ?_) <;> (refine s_lit1 (kk := 1) 21 tEl22_LfO fun h21 ho21 => ?_; refine aL_ent (En.freeze (l := 21) (t := 21) rfl rfl) fun _ => ?_; rw [show share (PV.own 3 1 1 [PV.val (.int .i64 a.n)]) = pInts [a.n] from rfl]) <;> refine aL_end (back _ (nrm ?_)) <;> (refine aD_one 10 (by kernel_rfl) ?_) <;> (refine aW_run rfl fun w9 M9 N9 DQ back => ?_) <;> refine cO 26 (cA Tryz.call96 (cloneMv_e a.moves (by omega))) fun v26 ho26 => ?_ <;> refine aL_end (back _ (nrm ?_)) <;> refine xE 11 27 rfl (q_build tSt25_LfO) ?_ <;> (refine aD_one 13 (by kernel_rfl) ?_) <;> (refine aW_run rfl fun w9 M9 N9 DQ back => ?_) <;> (refine s_sta 5 (m := 5) (by kernel_rfl) ?_ (h1 := by show (List.all [pInt (a.n + 1), pInt a.syms, pInts [a.n], pInts [a.n], PV.val v26] En.one) = true; simp only [List.all_cons, List.all_nil, Bool.and_true, Bool.and_eq_true]; exact ⟨rfl, rfl, rfl, rfl, ho26⟩)) <;> refine aL_end (back _ (nrm ?_)) <;> refine aD_end (by kernel_rfl) (nav ?_)))))); rotate_right; (focus ((refine aW_run rfl fun w9 M9 N9 DQ back => ?_) <;> refine cO 26 (cA Tryz.call96 (cloneMv_e a.moves (by omega))) fun v26 ho26 => ?_ <;> refine aL_end (back _ (nrm ?_)) <;> (refine aD_two 5 12 (by kernel_rfl) ?_ ?_; rotate_right; (focus ((refine aW_run rfl fun w9 M9 N9 DQ back => ?_) <;> refine s_alloc [(.int .i64 0), (.int .i64 0), (.slice none 0 0), (.slice none 0 0), (.slice none 0 0)] 5 5 tZr25_LfO fun h5 => ?_ <;> refine aL_end (back _ (nrm ?_)) <;> (refine aD_one 5 (by kernel_rfl) ?_) <;> (refine aW_run rfl fun w9 M9 N9 DQ back => ?_) <;> (refine s_lit1 (kk := 1) 21 tEl22_LfO fun h21 ho21 => ?_; refine aL_ent (En.freeze (l := 21) (t := 21) rfl rfl) fun _ => ?_; rw [show share (PV.own 3 1 1 [PV.val (.int .i64 a.n)]) = pInts [a.n] from rfl]) <;> refine aL_end (back _ (nrm ?_)) <;> refine xE 11 27 rfl (q_build tSt25_LfO) ?_ <;> (refine aD_one 13 (by kernel_rfl) ?_) <;> (refine aW_run rfl fun w9 M9 N9 DQ back => ?_) <;> (refine s_sta 5 (m := 5) (by kernel_rfl) ?_ (h1 := by show (List.all [pInt (a.n + 1), pInt a.syms, pInts [a.n], pInts [a.n], PV.val v26] En.one) = true; simp only [List.all_cons, List.all_nil, Bool.and_true, Bool.and_eq_true]; exact ⟨rfl, rfl, rfl, rfl, ho26⟩)) <;> refine aL_end (back _ (nrm ?_)) <;> refine aD_end (by kernel_rfl) (nav ?_))); rotate_right; (focus ((refine aW_run rfl fun w9 M9 N9 DQ back => ?_) <;> (refine s_lit1 (kk := 1) 21 tEl22_LfO fun h21 ho21 => ?_; refine aL_ent (En.freeze (l := 21) (t := 21) rfl rfl) fun _ => ?_; rw [show share (PV.own 3 1 1 [PV.val (.int .i64 a.n)]) = pInts [a.n] from rfl]) <;> refine aL_end (back _ (nrm ?_)) <;> refine xD 11 27 rfl (q_build tSt25_LfO) ?_ <;> (refine aD_one 12 (by kernel_rfl) ?_) <;> (refine aW_run rfl fun w9 M9 N9 DQ back => ?_) <;> refine s_alloc [(.int .i64 0), (.int .i64 0), (.slice none 0 0), (.slice none 0 0), (.slice none 0 0)] 5 5 tZr25_LfO fun h5 => ?_ <;> refine aL_end (back _ (nrm ?_)) <;> (refine aD_one 13 (by kernel_rfl) ?_) <;> (refine aW_run rfl fun w9 M9 N9 DQ back => ?_) <;> (refine s_sta 5 (m := 5) (by kernel_rfl) ?_ (h1 := by show (List.all [pInt (a.n + 1), pInt a.syms, pInts [a.n], pInts [a.n], PV.val v26] En.one) = true; simp only [List.all_cons, List.all_nil, Bool.and_true, Bool.and_eq_true]; exact ⟨rfl, rfl, rfl, rfl, ho26⟩)) <;> refine aL_end (back _ (nrm ?_)) <;> refine aD_end (by kernel_rfl) (nav ?_)))))); rotate_right; (focus ((refine aW_run rfl fun w9 M9 N9 DQ back => ?_) <;> (refine s_lit1 (kk := 1) 21 tEl22_LfO fun h21 ho21 => ?_; refine aL_ent (En.freeze (l := 21) (t := 21) rfl rfl) fun _ => ?_; rw [show share (PV.own 3 1 1 [PV.val (.int .i64 a.n)]) = pInts [a.n] from rfl]) <;> refine aL_end (back _ (nrm ?_)) <;> (refine aD_two 10 12 (by kernel_rfl) ?_ ?_; rotate_right; (focus ((refine aW_run rfl fun w9 M9 N9 DQ back => ?_) <;> refine s_alloc [(.int .i64 0), (.int .i64 0), (.slice none 0 0), (.slice none 0 0), (.slice none 0 0)] 5 5 tZr25_LfO fun h5 => ?_ <;> refine aL_end (back _ (nrm ?_)) <;> (refine aD_one 10 (by kernel_rfl) ?_) <;> (refine aW_run rfl fun w9 M9 N9 DQ back => ?_) <;> refine cO 26 (cA Tryz.call96 (cloneMv_e a.moves (by omega))) fun v26 ho26 => ?_ <;> refine aL_end (back _ (nrm ?_)) <;> refine xE 11 27 rfl (q_build tSt25_LfO) ?_ <;> (refine aD_one 13 (by kernel_rfl) ?_) <;> (refine aW_run rfl fun w9 M9 N9 DQ back => ?_) <;> (refine s_sta 5 (m := 5) (by kernel_rfl) ?_ (h1 := by show (List.all [pInt (a.n + 1), pInt a.syms, pInts [a.n], pInts [a.n], PV.val v26] En.one) = true; simp only [List.all_cons, List.all_nil, Bool.and_true, Bool.and_eq_true]; exact ⟨rfl, rfl, rfl, rfl, ho26⟩)) <;> refine aL_end (back _ (nrm ?_)) <;> refine aD_end (by kernel_rfl) (nav ?_))); rotate_right; (focus ((refine aW_run rfl fun w9 M9 N9 DQ back => ?_) <;> refine cO 26 (cA Tryz.call96 (cloneMv_e a.moves (by omega))) fun v26 ho26 => ?_ <;> refine aL_end (back _ (nrm ?_)) <;> refine xD 11 27 rfl (q_build tSt25_LfO) ?_ <;> (refine aD_one 12 (by kernel_rfl) ?_) <;> (refine aW_run rfl fun w9 M9 N9 DQ back => ?_) <;> refine s_alloc [(.int .i64 0), (.int .i64 0), (.slice none 0 0), (.slice none 0 0), (.slice none 0 0)] 5 5 tZr25_LfO fun h5 => ?_ <;> refine aL_end (back _ (nrm ?_)) <;> (refine aD_one 13 (by kernel_rfl) ?_) <;> (refine aW_run rfl fun w9 M9 N9 DQ back => ?_) <;> (refine s_sta 5 (m := 5) (by kernel_rfl) ?_ (h1 := by show (List.all [pInt (a.n + 1), pInt a.syms, pInts [a.n], pInts [a.n], PV.val v26] En.one) = true; simp only [List.all_cons, List.all_nil, Bool.and_true, Bool.and_eq_true]; exact ⟨rfl, rfl, rfl, rfl, ho26⟩)) <;> refine aL_end (back _ (nrm ?_)) <;> refine aD_end (by kernel_rfl) (nav ?_))))))))); rotate_right; (focus ((refine aW_run rfl fun w9 M9 N9 DQ back => ?_) <;> (refine s_lit1 (kk := 1) 21 tEl22_LfO fun h21 ho21 => ?_; refine aL_ent (En.freeze (l := 21) (t := 21) rfl rfl) fun _ => ?_; rw [show share (PV.own 3 1 1 [PV.val (.int .i64 a.n)]) = pInts [a.n] from rfl]) <;> refine aL_end (back _ (nrm ?_)) <;> (refine aD_three 7 10 12 (by kernel_rfl) ?_ ?_ ?_; rotate_right; (focus ((refine aW_run rfl fun w9 M9 N9 DQ back => ?_) <;> refine s_alloc [(.int .i64 0), (.int .i64 0), (.slice none 0 0), (.slice none 0 0), (.slice none 0 0)] 5 5 tZr25_LfO fun h5 => ?_ <;> refine aL_end (back _ (nrm ?_)) <;> (refine aD_two 7 10 (by kernel_rfl) ?_ ?_; rotate_right; (focus ((refine aW_run rfl fun w9 M9 N9 DQ back => ?_) <;> refine cO 26 (cA Tryz.call96 (cloneMv_e a.moves (by omega))) fun v26 ho26 => ?_ <;> refine aL_end (back _ (nrm ?_)) <;> (refine aD_one 7 (by kernel_rfl) ?_) <;> (refine aW_run rfl fun w9 M9 N9 DQ back => ?_) <;> (refine s_lit1 (kk := 1) 23 tEl22_LfO fun h23 ho23 => ?_; refine aL_ent (En.freeze (l := 23) (t := 23) rfl rfl) fun _ => ?_; rw [show share (PV.own 3 1 1 [PV.val (.int .i64 a.n)]) = pInts [a.n] from rfl]) <;> refine aL_end (back _ (nrm ?_)) <;> refine xE 11 27 rfl (q_build tSt25_LfO) ?_ <;> (refine aD_one 13 (by kernel_rfl) ?_) <;> (refine aW_run rfl fun w9 M9 N9 DQ back => ?_) <;> (refine s_sta 5 (m := 5) (by kernel_rfl) ?_ (h1 := by show (List.all [pInt (a.n + 1), pInt a.syms, pInts [a.n], pInts [a.n], PV.val v26] En.one) = true; simp only [List.all_cons, List.all_nil, Bool.and_true, Bool.and_eq_true]; exact ⟨rfl, rfl, rfl, rfl, ho26⟩)) <;> refine aL_end (back _ (nrm ?_)) <;> refine aD_end (by kernel_rfl) (nav ?_))); rotate_right; (focus ((refine aW_run rfl fun w9 M9 N9 DQ back => ?_) <;> (refine s_lit1 (kk := 1) 23 tEl22_LfO fun h23 ho23 => ?_; refine aL_ent (En.freeze (l := 23) (t := 23) rfl rfl) fun _ => ?_; rw [show share (PV.own 3 1 1 [PV.val (.int .i64 a.n)]) = pInts [a.n] from rfl]) <;> refine aL_end (back _ (nrm ?_)) <;> (refine aD_one 10 (by kernel_rfl) ?_) <;> (refine aW_run rfl fun w9 M9 N9 DQ back => ?_) <;> refine cO 26 (cA Tryz.call96 (cloneMv_e a.moves (by omega))) fun v26 ho26 => ?_ <;> refine aL_end (back _ (nrm ?_)) <;> refine xE 11 27 rfl (q_build tSt25_LfO) ?_ <;> (refine aD_one 13 (by kernel_rfl) ?_) <;> (refine aW_run rfl fun w9 M9 N9 DQ back => ?_) <;> (refine s_sta 5 (m := 5) (by kernel_rfl) ?_ (h1 := by show (List.all [pInt (a.n + 1), pInt a.syms, pInts [a.n], pInts [a.n], PV.val v26] En.one) = true; simp only [List.all_cons, List.all_nil, Bool.and_true, Bool.and_eq_true]; exact ⟨rfl, rfl, rfl, rfl, ho26⟩)) <;> refine aL_end (back _ (nrm ?_)) <;> refine aD_end (by kernel_rfl) (nav ?_)))))); rotate_right; (focus ((refine aW_run rfl fun w9 M9 N9 DQ back => ?_) <;> refine cO 26 (cA Tryz.call96 (cloneMv_e a.moves (by omega))) fun v26 ho26 => ?_ <;> refine aL_end (back _ (nrm ?_)) <;> (refine aD_two 7 12 (by kernel_rfl) ?_ ?_; rotate_right; (focus ((refine aW_run rfl fun w9 M9 N9 DQ back => ?_) <;> refine s_alloc [(.int .i64 0), (.int .i64 0), (.slice none 0 0), (.slice none 0 0), (.slice none 0 0)] 5 5 tZr25_LfO fun h5 => ?_ <;> refine aL_end (back _ (nrm ?_)) <;> (refine aD_one 7 (by kernel_rfl) ?_) <;> (refine aW_run rfl fun w9 M9 N9 DQ back => ?_) <;> (refine s_lit1 (kk := 1) 23 tEl22_LfO fun h23 ho23 => ?_; refine aL_ent (En.freeze (l := 23) (t := 23) rfl rfl) fun _ => ?_; rw [show share (PV.own 3 1 1 [PV.val (.int .i64 a.n)]) = pInts [a.n] from rfl]) <;> refine aL_end (back _ (nrm ?_)) <;> refine xE 11 27 rfl (q_build tSt25_LfO) ?_ <;> (refine aD_one 13 (by kernel_rfl) ?_) <;> (refine aW_run rfl fun w9 M9 N9 DQ back => ?_) <;> (refine s_sta 5 (m := 5) (by kernel_rfl) ?_ (h1 := by show (List.all [pInt (a.n + 1), pInt a.syms, pInts [a.n], pInts [a.n], PV.val v26] En.one) = true; simp only [List.all_cons, List.all_nil, Bool.and_true, Bool.and_eq_true]; exact ⟨rfl, rfl, rfl, rfl, ho26⟩)) <;> refine aL_end (back _ (nrm ?_)) <;> refine aD_end (by kernel_rfl) (nav ?_))); rotate_right; (focus ((refine aW_run rfl fun w9 M9 N9 DQ back => ?_) <;> (refine s_lit1 (kk := 1) 23 tEl22_LfO fun h23 ho23 => ?_; refine aL_ent (En.freeze (l := 23) (t := 23) rfl rfl) fun _ => ?_; rw [show share (PV.own 3 1 1 [PV.val (.int .i64 a.n)]) = pInts [a.n] from rfl]) <;> refine aL_end (back _ (nrm ?_)) <;> refine xD 11 27 rfl (q_build tSt25_LfO) ?_ <;> (refine aD_one 12 (by kernel_rfl) ?_) <;> (refine aW_run rfl fun w9 M9 N9 DQ back => ?_) <;> refine s_alloc [(.int .i64 0), (.int .i64 0), (.slice none 0 0), (.slice none 0 0), (.slice none 0 0)] 5 5 tZr25_LfO fun h5 => ?_ <;> refine aL_end (back _ (nrm ?_)) <;> (refine aD_one 13 (by kernel_rfl) ?_) <;> (refine aW_run rfl fun w9 M9 N9 DQ back => ?_) <;> (refine s_sta 5 (m := 5) (by kernel_rfl) ?_ (h1 := by show (List.all [pInt (a.n + 1), pInt a.syms, pInts [a.n], pInts [a.n], PV.val v26] En.one) = true; simp only [List.all_cons, List.all_nil, Bool.and_true, Bool.and_eq_true]; exact ⟨rfl, rfl, rfl, rfl, ho26⟩)) <;> refine aL_end (back _ (nrm ?_)) <;> refine aD_end (by kernel_rfl) (nav ?_)))))); rotate_right; (focus ((refine aW_run rfl fun w9 M9 N9 DQ back => ?_) <;> (refine s_lit1 (kk := 1) 23 tEl22_LfO fun h23 ho23 => ?_; refine aL_ent (En.freeze (l := 23) (t := 23) rfl rfl) fun _ => ?_; rw [show share (PV.own 3 1 1 [PV.val (.int .i64 a.n)]) = pInts [a.n] from rfl]) <;> refine aL_end (back _ (nrm ?_)) <;> (refine aD_two 10 12 (by kernel_rfl) ?_ ?_; rotate_right; (focus ((refine aW_run rfl fun w9 M9 N9 DQ back => ?_) <;> refine s_alloc [(.int .i64 0), (.int .i64 0), (.slice none 0 0), (.slice none 0 0), (.slice none 0 0)] 5 5 tZr25_LfO fun h5 => ?_ <;> refine aL_end (back _ (nrm ?_)) <;> (refine aD_one 10 (by kernel_rfl) ?_) <;> (refine aW_run rfl fun w9 M9 N9 DQ back => ?_) <;> refine cO 26 (cA Tryz.call96 (cloneMv_e a.moves (by omega))) fun v26 ho26 => ?_ <;> refine aL_end (back _ (nrm ?_)) <;> refine xE 11 27 rfl (q_build tSt25_LfO) ?_ <;> (refine aD_one 13 (by kernel_rfl) ?_) <;> (refine aW_run rfl fun w9 M9 N9 DQ back => ?_) <;> (refine s_sta 5 (m := 5) (by kernel_rfl) ?_ (h1 := by show (List.all [pInt (a.n + 1), pInt a.syms, pInts [a.n], pInts [a.n], PV.val v26] En.one) = true; simp only [List.all_cons, List.all_nil, Bool.and_true, Bool.and_eq_true]; exact ⟨rfl, rfl, rfl, rfl, ho26⟩)) <;> refine aL_end (back _ (nrm ?_)) <;> refine aD_end (by kernel_rfl) (nav ?_))); rotate_right; (focus ((refine aW_run rfl fun w9 M9 N9 DQ back => ?_) <;> refine cO 26 (cA Tryz.call96 (cloneMv_e a.moves (by omega))) fun v26 ho26 => ?_ <;> refine aL_end (back _ (nrm ?_)) <;> refine xD 11 27 rfl (q_build tSt25_LfO) ?_ <;> (refine aD_one 12 (by kernel_rfl) ?_) <;> (refine aW_run rfl fun w9 M9 N9 DQ back => ?_) <;> refine s_alloc [(.int .i64 0), (.int .i64 0), (.slice none 0 0), (.slice none 0 0), (.slice none 0 0)] 5 5 tZr25_LfO fun h5 => ?_ <;> refine aL_end (back _ (nrm ?_)) <;> (refine aD_one 13 (by kernel_rfl) ?_) <;> (refine aW_run rfl fun w9 M9 N9 DQ back => ?_) <;> (refine s_sta 5 (m := 5) (by kernel_rfl) ?_ (h1 := by show (List.all [pInt (a.n + 1), pInt a.syms, pInts [a.n], pInts [a.n], PV.val v26] En.one) = true; simp only [List.all_cons, List.all_nil, Bool.and_true, Bool.and_eq_true]; exact ⟨rfl, rfl, rfl, rfl, ho26⟩)) <;> refine aL_end (back _ (nrm ?_)) <;> refine aD_end (by kernel_rfl) (nav ?_))))))))))
        <;> try dsimp only) <;> (
       exact aN_join ⟨(v26, h5), ho26⟩ ⟨rfl, rfl, rfl, rfl, trivial⟩ ⟨rfl, rfl, rfl, rfl, trivial⟩)
    · rintro ⟨⟨v26, h5⟩, ho26⟩
      dsimp only at ho26 ⊢
      refine aC_ent (relabel (l := 26) 301 rfl rfl) fun _ => ?_
      refine aC_ent (recast (l := 301) (p' := .own 72 3 (a.moves ++ stMv a.n (a.start.take 0)).length ((a.moves ++ stMv a.n (a.start.take 0)).flatMap cMv)) rfl (by rw [show stMv a.n (a.start.take 0) = [] from rfl, List.append_nil])) fun _ => ?_
      refine nav ?_
      (refine aC_region ?_
        <;> refine xL 28 (q_fldo 1 tFl25_2_LfO) ?_
        <;> (refine yL 29 (q_ldo 1 tNa22_LfO) fun v29 hv29 => ?_; cases hv29)
        <;> refine xL 30 (q_len tSl22_LfO) ?_
        <;> refine xL 31 q_move ?_
        <;> refine aL_end (nav ?_) <;> try dsimp only)
      refine aC_loop (ι := { q : Nat × Value // q.1 ≤ a.start.length ∧ q.2.oneCell' = true }) (fun k => ⟨[(1, _, _), (2, _, _), (4, _, _), (5, _, _), (29, _, _), (30, _, _), (31, .int .i64 k.1.1, pInt k.1.1)], [(1, _, _), (2, _, _), (5, h5, .own 25 5 1 [pInt (a.n + 1), pInt a.syms, pInts [a.n], pInts [a.n], .val k.1.2]), (301, k.1.2, .own 72 3 (a.moves ++ stMv a.n (a.start.take k.1.1)).length ((a.moves ++ stMv a.n (a.start.take k.1.1)).flatMap cMv))]⟩) (fun k => a.start.length - k.1.1) ⟨(0, v26), Nat.zero_le _, ho26⟩ (fun a w H => H.weaken ⟨rfl, rfl, rfl, rfl, rfl, rfl, rfl, trivial⟩ ⟨rfl, rfl, rfl, rfl, trivial⟩) ?_
      rintro ⟨⟨k, hM⟩, hk, hMo⟩
      dsimp only
      dsimp only at hk hMo
      have hl1 : (a.moves ++ stMv a.n (a.start.take k)).length ≤ 30000 := by unfold stMv; rw [List.length_append, List.length_map, List.length_take]; omega
      refine nav ?_
      (refine aC_region ?_
        <;> refine xL 32 q_lss ?_
        <;> refine aL_end (nav ?_) <;> try dsimp only)
      first | refine cCd (fun hb32 => ?_) (fun hb32 => ?_) | refine cC (fun hb32 => ?_) (fun hb32 => ?_)
      · first
        | exact Bool.noConfusion hb32
        | (
         obtain ⟨x, hx⟩ := get_some (show k < a.start.length by omega)
         have e1 := map_at (f := pInt) hx
         refine nav ?_
         (refine aC_region ?_
           <;> refine xL 33 (q_idxN tSl22_LfO) ?_
           <;> (refine yL 34 (q_ld tNa3_LfO) fun v34 hv34 => ?_; cases hv34)
           <;> refine xL 7 q_assign ?_
           <;> refine aL_end (nav ?_) <;> try dsimp only)
         (refine aC_region ?_
           <;> refine xL 35 (q_fldo 5 tFl25_4_LfO) ?_
           <;> (refine yL 36 (q_ldo 5 tNa23_LfO) fun v36 hv36 => ?_; cases hv36)
           <;> refine xL 37 q_move ?_
           <;> refine xL 38 q_move ?_
           <;> refine xL 39 (q_build tSt72_LfO) ?_
           <;> refine s_lit1a 40 tEl23_LfO fun h40 ho40 => ?_
           <;> (refine s_app 301 40 41 tEl23_LfO fun h41 ho41 => ?_; refine aL_ent (relabel (l := 41) 301 rfl rfl) fun _ => ?_; refine aL_ent (recast (l := 301) rfl ((snoc_mv _ (a.moves ++ stMv a.n (a.start.take k)) ⟨a.n, x, -1⟩).trans (by rw [List.append_assoc, ← stMv_snoc a.n hx]))) fun _ => ?_)
           <;> refine xL 42 (q_fldo 5 tFl25_4_LfO) ?_
           <;> refine s_st 5 tNa23_LfO tSz23_LfO ?_
           <;> refine aL_end (nav ?_) <;> try dsimp only)
         (refine aC_region ?_
           <;> refine xL 43 q_add ?_
           <;> refine xL 31 q_move ?_
           <;> refine aL_end (nav ?_) <;> try dsimp only)
         refine aN_again (
           ⟨(k + 1, h41), lt_of_get hx, ho41⟩
           ) (by dsimp only; omega) ⟨rfl, rfl, rfl, rfl, rfl, rfl, rfl, trivial⟩ ⟨rfl, rfl, rfl, rfl, trivial⟩)
      · first
        | exact Bool.noConfusion hb32
        | (
         rw [List.take_of_length_le (show a.start.length ≤ k by omega)]
         rw [show a.moves ++ stMv a.n a.start = a.moves ++ stMv a.n a.start ++ fiMv a.n (a.fin.take 0) from (List.append_nil _).symm]
         refine nav ?_
         (refine aC_region ?_
           <;> refine xL 44 (q_fldo 1 tFl25_3_LfO) ?_
           <;> (refine yL 45 (q_ldo 1 tNa22_LfO) fun v45 hv45 => ?_; cases hv45)
           <;> refine xL 46 (q_len tSl22_LfO) ?_
           <;> refine xL 47 q_move ?_
           <;> refine aL_end (nav ?_) <;> try dsimp only)
         refine aC_loop (ι := { q : Nat × Value // q.1 ≤ a.fin.length ∧ q.2.oneCell' = true }) (fun k => ⟨[(1, _, _), (2, _, _), (4, _, _), (5, _, _), (45, _, _), (46, _, _), (47, .int .i64 k.1.1, pInt k.1.1)], [(1, _, _), (2, _, _), (5, h5, .own 25 5 1 [pInt (a.n + 1), pInt a.syms, pInts [a.n], pInts [a.n], .val k.1.2]), (301, k.1.2, .own 72 3 (a.moves ++ stMv a.n a.start ++ fiMv a.n (a.fin.take k.1.1)).length ((a.moves ++ stMv a.n a.start ++ fiMv a.n (a.fin.take k.1.1)).flatMap cMv))]⟩) (fun k => a.fin.length - k.1.1) ⟨(0, hM), Nat.zero_le _, hMo⟩ (fun a w H => H.weaken ⟨rfl, rfl, rfl, rfl, rfl, rfl, rfl, trivial⟩ ⟨rfl, rfl, rfl, rfl, trivial⟩) ?_
         rintro ⟨⟨j, hM2⟩, hj, hM2o⟩
         dsimp only
         dsimp only at hj hM2o
         have hl2 : (a.moves ++ stMv a.n a.start ++ fiMv a.n (a.fin.take j)).length ≤ 30000 := by unfold stMv fiMv; rw [List.length_append, List.length_append, List.length_map, List.length_map, List.length_take]; omega
         refine nav ?_
         (refine aC_region ?_
           <;> refine xL 48 q_lss ?_
           <;> refine aL_end (nav ?_) <;> try dsimp only)
         first | refine cCd (fun hb48 => ?_) (fun hb48 => ?_) | refine cC (fun hb48 => ?_) (fun hb48 => ?_)
         · first
           | exact Bool.noConfusion hb48
           | (
            obtain ⟨y, hy⟩ := get_some (show j < a.fin.length by omega)
            have e1 := map_at (f := pInt) hy
            refine nav ?_
            (refine aC_region ?_
              <;> refine xL 49 (q_idxN tSl22_LfO) ?_
              <;> (refine yL 50 (q_ld tNa3_LfO) fun v50 hv50 => ?_; cases hv50)
              <;> refine xL 9 q_assign ?_
              <;> refine aL_end (nav ?_) <;> try dsimp only)
            (refine aC_region ?_
              <;> refine xL 51 (q_fldo 5 tFl25_4_LfO) ?_
              <;> (refine yL 52 (q_ldo 5 tNa23_LfO) fun v52 hv52 => ?_; cases hv52)
              <;> refine xL 53 q_move ?_
              <;> refine xL 54 q_move ?_
              <;> refine xL 55 (q_build tSt72_LfO) ?_
              <;> refine s_lit1a 56 tEl23_LfO fun h56 ho56 => ?_
              <;> (refine s_app 301 56 57 tEl23_LfO fun h57 ho57 => ?_; refine aL_ent (relabel (l := 57) 301 rfl rfl) fun _ => ?_; refine aL_ent (recast (l := 301) rfl ((snoc_mv _ (a.moves ++ stMv a.n a.start ++ fiMv a.n (a.fin.take j)) ⟨y, a.n, -1⟩).trans (by rw [List.append_assoc (a.moves ++ stMv a.n a.start), ← fiMv_snoc a.n hy]))) fun _ => ?_)
              <;> refine xL 58 (q_fldo 5 tFl25_4_LfO) ?_
              <;> refine s_st 5 tNa23_LfO tSz23_LfO ?_
              <;> refine aL_end (nav ?_) <;> try dsimp only)
            (refine aC_region ?_
              <;> refine xL 59 q_add ?_
              <;> refine xL 47 q_move ?_
              <;> refine aL_end (nav ?_) <;> try dsimp only)
            refine aN_again (
              ⟨(j + 1, h57), lt_of_get hy, ho57⟩
              ) (by dsimp only; omega) ⟨rfl, rfl, rfl, rfl, rfl, rfl, rfl, trivial⟩ ⟨rfl, rfl, rfl, rfl, trivial⟩)
         · first
           | exact Bool.noConfusion hb48
           | (
            rw [List.take_of_length_le (show a.fin.length ≤ j by omega)]
            have hone : En.one (PV.val hM2) = true := hM2o
            refine nav ?_
            refine aC_ent (relabel (l := 301) 1000 rfl rfl) fun _ => ?_
            (refine aC_region ?_
              <;> (refine yL 60 (q_ldao (k := 5) (ps := [pInt (a.n + 1), pInt a.syms, pInts [a.n], pInts [a.n], PV.val hM2]) 5 (by kernel_rfl)) fun v60 hv60 => ?_; cases hv60)
              <;> (refine aL_heap [(1000, hM2, PV.own 72 3 (starA a).moves.length ((starA a).moves.flatMap cMv)), (1, _, _), (2, _, _), (5, _, _)] ⟨rfl, rfl, rfl, rfl, trivial⟩ ?_; refine aL_ch [1, 2, 5] 61 (Tryz.call88) (aMade_err (starA a) (star_len h.toAOk) (star_nodup h) _ hM2 hM2o hr) ?_; rintro _ _ _ ⟨⟨V1, rfl⟩, rfl, rfl⟩)
              <;> refine xL 62 q_extract ?_
              <;> refine xL 63 q_extract ?_
              <;> refine s_sta 2 tAgg25_LfO ?_
              <;> refine xL 3 q_assign ?_
              <;> refine aL_end (nav ?_) <;> try dsimp only)
            exact ret_cs (k := 5) 2 (by kernel_rfl) (Tryz.results44) rfl rfl rfl (Nat.le_of_ble_eq_true rfl) (by decide) rfl rfl))
theorem aStar_e (a : Aut) : AF Tryz.prog 44 [pAut a] (· = resW (starX a)) := by
  cases hv : autOk a with
  | false => rw [starX_bad hv]; exact aStar_bad a hv
  | true =>
    rw [starX_ok hv]
    have h := vok_of hv
    have hr := aReduced_mk (starA a) (star_len h.toAOk) (star_pre h)
    rcases res_cases (madeX (starA a)) with ⟨A, _, h2⟩ | ⟨e, _, h2⟩
    · rw [h2] at hr ⊢; exact aStar_ok a hv hr
    · rw [h2] at hr ⊢; exact aStar_err a hv hr
end Go.Proofs.YtgigclnaicbiaaaGreatDoor

namespace Go.Proofs.YtgigclnaicbiaaaGreatDoor
open Go.RowKit Go.Cb Go.En
set_option linter.all false

theorem rowMv_at {i : Nat} {r : List Nat} {s n : Nat} (h : r[s]? = some n) : (rowMv i r)[s]? = some ⟨(i : Nat), (n : Nat), (s : Nat)⟩ := by
  unfold rowMv
  rw [List.getElem?_map, List.getElem?_zipIdx, h]
  show some (⟨(i : Nat), (n : Nat), ((0 + s : Nat) : Int)⟩ : Mv) = _
  rw [Nat.zero_add]
def mvFrom (k : Nat) (rows : List (List Nat)) : List Mv := (rows.zipIdx k).flatMap fun p => rowMv p.2 p.1
theorem mvFrom_cons (k : Nat) (r : List Nat) (rows : List (List Nat)) : mvFrom k (r :: rows) = rowMv k r ++ mvFrom (k + 1) rows := by
  unfold mvFrom; rw [List.zipIdx_cons, List.flatMap_cons]
theorem mvFrom_at {m : Nat} : ∀ {rows : List (List Nat)} {k i s n : Nat} {r : List Nat}, (∀ r ∈ rows, r.length = m) → rows[i]? = some r → r[s]? = some n → (mvFrom k rows)[i * m + s]? = some ⟨((k + i : Nat) : Int), (n : Nat), (s : Nat)⟩
  | [], _, _, _, _, _, _, h, _ => by simp at h
  | x :: rows, k, 0, s, n, r, hl, hr, hs => by
    simp only [List.getElem?_cons_zero, Option.some.injEq] at hr
    subst hr
    rw [mvFrom_cons, Nat.zero_mul, Nat.zero_add, List.getElem?_append_left (by rw [rowMv_len]; exact lt_of_get hs), rowMv_at hs]; rfl
  | x :: rows, k, i + 1, s, n, r, hl, hr, hs => by
    simp only [List.getElem?_cons_succ] at hr
    have hx := hl x (List.mem_cons_self ..)
    rw [mvFrom_cons, List.getElem?_append_right (by rw [rowMv_len, hx, Nat.succ_mul]; omega), rowMv_len, hx, show (i + 1) * m + s - m = i * m + s by rw [Nat.succ_mul]; omega, mvFrom_at (fun r hr => hl r (List.mem_cons_of_mem _ hr)) hr hs]
    rw [show k + 1 + i = k + (i + 1) by omega]
theorem rowMv_src {i : Nat} {r : List Nat} : ∀ m ∈ rowMv i r, m.src = (i : Nat) := fun m hm => by
  obtain ⟨n, s, _, rfl⟩ := mem_rowMv hm
  rfl
theorem mvFrom_src {k : Nat} {rows : List (List Nat)} : ∀ m ∈ mvFrom k rows, (k : Int) ≤ m.src := fun m hm => by
  unfold mvFrom at hm
  obtain ⟨p, hp, hm⟩ := List.mem_flatMap.1 hm
  rw [rowMv_src m hm]
  have := List.mem_zipIdx hp
  omega
theorem mvFrom_of : ∀ {rows : List (List Nat)} {k i : Nat} {r : List Nat}, rows[i]? = some r → (mvFrom k rows).filter (fun m => decide (m.src = ((k + i : Nat) : Int))) = rowMv (k + i) r
  | [], _, _, _, h => by simp at h
  | x :: rows, k, 0, r, h => by
    simp only [List.getElem?_cons_zero, Option.some.injEq] at h
    subst h
    rw [Nat.add_zero, mvFrom_cons, List.filter_append, List.filter_eq_self.2 fun m hm => decide_eq_true (rowMv_src m hm), List.filter_eq_nil_iff.2 fun m hm => by
      have := mvFrom_src m hm
      simp only [decide_eq_true_eq]; omega, List.append_nil]
  | x :: rows, k, i + 1, r, h => by
    simp only [List.getElem?_cons_succ] at h
    rw [mvFrom_cons, List.filter_append, List.filter_eq_nil_iff.2 fun m hm => by
      have := rowMv_src m hm
      simp only [decide_eq_true_eq]; omega, List.nil_append, show k + (i + 1) = k + 1 + i by omega]
    exact mvFrom_of h
structure DetA (A : Aut) : Prop where
  ok : AOk A
  pos : 0 < A.n.toNat
  mo : ∀ i s, i < A.n.toNat → s < A.syms.toNat → ∃ x : Mv, (movesOf A i)[s]? = some x ∧ A.moves[i * A.syms.toNat + s]? = some x ∧ x.dst = (stepA A i s : Nat)
  ml : ∀ i, i < A.n.toNat → (movesOf A i).length = A.syms.toNat
  sl : ∀ i s, i < A.n.toNat → s < A.syms.toNat → stepA A i s < A.n.toNat
theorem stepA_at {A : Aut} {i s : Nat} {x : Mv} (h : A.moves[i * A.syms.toNat + s]? = some x) : stepA A i s = x.dst.toNat := by
  unfold stepA; rw [h]; rfl
theorem det_Q {t : Tab} (ht : TOk t) {o : List Nat} {rows : List (List Nat)} (h : Fin t o rows) (hm : (movesT rows).length ≤ 20000) : DetA (autQ t (o, rows)) := by
  have hok := autQ_aok ht h hm
  have hn : (autQ t (o, rows)).n.toNat = o.length := Int.toNat_natCast _
  have hs : (autQ t (o, rows)).syms.toNat = t.m := Int.toNat_natCast _
  have key : ∀ i s, i < o.length → s < t.m → ∃ (r : List Nat) (n : Nat), rows[i]? = some r ∧ r[s]? = some n ∧ n < o.length ∧ (autQ t (o, rows)).moves[i * t.m + s]? = some ⟨(i : Nat), (n : Nat), (s : Nat)⟩ ∧ movesOf (autQ t (o, rows)) i = rowMv i r := fun i s hi hs => by
    obtain ⟨r, hr⟩ := get_some (show i < rows.length by rw [h.len]; exact hi)
    have hrl : r.length = t.m := h.ok.len r (List.mem_of_getElem? hr)
    obtain ⟨n, hn⟩ := get_some (show s < r.length by omega)
    obtain ⟨x, hx⟩ := get_some hi
    refine ⟨r, n, hr, hn, (h.ok.to i x r s n hx hr hn).1, ?_, ?_⟩
    · have := mvFrom_at (k := 0) h.ok.len hr hn
      rw [Nat.zero_add] at this
      exact this
    · have := mvFrom_of (k := 0) hr
      rw [Nat.zero_add] at this
      exact this
  refine ⟨hok, by rw [hn]; exact h.pos, fun i s hi hs' => ?_, fun i hi => ?_, fun i s hi hs' => ?_⟩
  · rw [hn] at hi
    rw [hs] at hs' ⊢
    obtain ⟨r, n, h1, h2, h3, h4, h5⟩ := key i s hi hs'
    refine ⟨_, by rw [h5]; exact rowMv_at h2, h4, ?_⟩
    rw [stepA_at (by rw [hs]; exact h4)]
    show ((n : Nat) : Int) = (((n : Nat) : Int).toNat : Nat)
    rw [Int.toNat_natCast]
  · rw [hn] at hi
    obtain ⟨r, hr⟩ := get_some (show i < rows.length by rw [h.len]; exact hi)
    have := mvFrom_of (k := 0) hr
    rw [Nat.zero_add] at this
    show ((movesT rows).filter fun m => decide (m.src = (i : Int))).length = _
    rw [show ((movesT rows).filter fun m => decide (m.src = (i : Int))) = rowMv i r from this, rowMv_len, hs]
    exact h.ok.len r (List.mem_of_getElem? hr)
  · rw [hn] at hi ⊢
    rw [hs] at hs'
    obtain ⟨r, n, h1, h2, h3, h4, h5⟩ := key i s hi hs'
    rw [stepA_at (by rw [hs]; exact h4)]
    show ((n : Nat) : Int).toNat < _
    rw [Int.toNat_natCast]; exact h3
theorem redX_det {a A : Aut} (h : AOk a) (hr : redX a = .ok A) : DetA A ∧ A.syms = a.syms := by
  obtain ⟨t, o, rows, hs, hT, _, hF, rfl, hm⟩ := redX_ok h hr
  refine ⟨det_Q hT hF hm, ?_⟩
  unfold subT at hs
  obtain ⟨q, _, rfl⟩ := Option.map_eq_some_iff.1 hs
  show ((a.syms.toNat : Nat) : Int) = a.syms
  have := h.s0
  omega
def PairOk (A B : Aut) (x : (Nat × Nat) × (Int × Int)) : Prop := x.1.1 < A.n.toNat ∧ x.1.2 < B.n.toNat
theorem prod_ok {A B : Aut} (hA : DetA A) (hB : DetA B) (hs : A.syms = B.syms) {i : Nat} {o : List ((Nat × Nat) × (Int × Int))} {rows : List (List Nat)} (hu : (prodW A B).upto ((0, 0), (-1, -1)) i = some (o, rows)) : (prodW A B).Ok (PairOk A B) ((0, 0), (-1, -1)) o rows ∧ (i ≤ o.length → rows.length = i) ∧ (o.length ≤ i → rows.length = o.length) :=
  Srch.ok (W := prodW A B) (P := PairOk A B) (show 1 ≤ 2000 by decide) ⟨hA.pos, hB.pos⟩ (fun i x s hx hsm => ⟨hA.sl _ _ hx.1 hsm, hB.sl _ _ hx.2 (by have : s < A.syms.toNat := hsm; rw [← hs]; exact this)⟩) hu
end Go.Proofs.YtgigclnaicbiaaaGreatDoor

namespace Go.En
open Go.RowKit Go.Cb
set_option linter.all false
abbrev Pi2 := Int × Int
def ikey (k : Pi2) : Value := .agg #[.int .i64 k.1, .int .i64 k.2]
theorem ikey_inj {a b : Pi2} (h : ikey a = ikey b) : a = b := by
  simp [ikey] at h
  exact Prod.ext h.1 h.2
def pikv (m : List (Pi2 × Value)) : List (Value × Value) := m.map fun x => (ikey x.1, x.2)
def piOk (k : Pi2) : Prop := (0 ≤ k.1 ∧ k.1 ≤ 1000000) ∧ (0 ≤ k.2 ∧ k.2 ≤ 1000000)
structure PiT (P : Program) (t ks s e : Nat) (z : Value) : Prop where
  ht : P.underlying t = some (.map ks e)
  hu : P.underlying ks = some (.array 2 s)
  hs : P.underlying s = some (.int .i64)
  hk : P.keyType ks = true
  hk2 : P.keyTypeAt 2 ks = true
  hti : P.tiled 2 ks = true
  hc2 : P.cellsOf ks = 2
  hc1 : P.cellsOf s = 1
  hf : ∀ a b : Int, (Value.agg #[.int .i64 a, .int .i64 b]).formed P ks = true
  hsz : ∃ n, P.types.size = n + 1
  hz : ZeroT P e z
theorem PiT.law {P : Program} {t ks s e : Nat} {z : Value} (h : PiT P t ks s e z) : WideMaps.KeyLaw P ks := deep_law (m := 2) (by decide) h.hk2 h.hti (by rw [h.hu])
theorem PiT.key {P : Program} {t ks s e : Nat} {z : Value} (h : PiT P t ks s e z) {k : Pi2} (hk : piOk k) : ∃ l, keyOf P ks (ikey k) = some l := by
  obtain ⟨n, hn⟩ := h.hsz
  have hl : ∀ c : Int, (0 ≤ c ∧ c ≤ 1000000) → P.keyLits (n + 1) s [.int .i64 c] = some [.int .i64 c] := fun c hc => by
    unfold Program.keyLits
    rw [h.hs]
    dsimp only
    rw [if_pos ⟨rfl, by simp [Lit.wf, IntKind.min, IntKind.max, IntKind.signed, IntKind.bits]; omega⟩]
  unfold keyOf
  rw [h.hu]
  dsimp only
  rw [h.hk, show (ikey k).formed P ks = true from h.hf _ _, hn]
  refine ⟨.string (keyBytes [.int .i64 k.1, .int .i64 k.2]), ?_⟩
  rw [if_pos (show (true && true) = true from rfl)]
  unfold Program.keyLits
  rw [h.hu]
  dsimp only [ikey, Value.cells]
  rw [h.hc2, h.hc1]
  rw [if_pos (by rfl)]
  rw [show List.range 2 = [0, 1] from rfl]
  simp only [List.mapM_cons, List.mapM_nil, Nat.zero_mul, Nat.one_mul, List.drop_zero, List.drop_succ_cons, List.take_succ_cons, List.take_zero, hl _ hk.1, hl _ hk.2]
  rfl
theorem aget_none2 {m : List (Pi2 × Value)} {k : Pi2} (h : ∀ x ∈ m, x.1 ≠ k) : aget m k = none := by
  induction m with
  | nil => rfl
  | cons x m ih =>
    rw [aget, if_neg (fun e => h x (by simp) e.symm)]
    exact ih fun y hy => h y (by simp [hy])
theorem aget_some2 {m : List (Pi2 × Value)} (hn : (m.map (·.1)).Nodup) {j : Nat} {k : Pi2} {v : Value} (h : m[j]? = some (k, v)) : aget m k = some v := by
  induction m generalizing j with
  | nil => simp at h
  | cons x m ih =>
    rw [List.map_cons, List.nodup_cons] at hn
    cases j with
    | zero => simp at h; subst h; rw [aget, if_pos rfl]
    | succ j =>
      rw [List.getElem?_cons_succ] at h
      rw [aget, if_neg (fun e => hn.1 (List.mem_map.2 ⟨_, List.mem_of_getElem? h, e⟩))]
      exact ih hn.2 h
theorem ent_at2 {es : Array MapEntry} {m : List (Pi2 × Value)} (h : kvOf es = pikv m) {j : Nat} {e : MapEntry} {k : Pi2} (he : es[j]? = some e) (hk : e.key = ikey k) : m[j]? = some (k, e.val) := by
  have h1 : (kvOf es)[j]? = some (ikey k, e.val) := by
    unfold kvOf
    rw [List.getElem?_map, Array.getElem?_toList, he, ← hk]; rfl
  rw [h] at h1
  unfold pikv at h1
  rw [List.getElem?_map, Option.map_eq_some_iff] at h1
  obtain ⟨⟨k', v'⟩, h2, h3⟩ := h1
  obtain ⟨h4, h5⟩ := Prod.mk.inj h3
  dsimp only at h4 h5
  rw [h2, ikey_inj h4, h5]
theorem keys_all2 {es : Array MapEntry} {m : List (Pi2 × Value)} (h : kvOf es = pikv m) : ∀ e ∈ es.toList, ∃ x ∈ m, e.key = ikey x.1 := fun e he => by
  have h1 : (e.key, e.val) ∈ kvOf es := List.mem_map.2 ⟨e, he, rfl⟩
  rw [h] at h1
  obtain ⟨x, hx, hxe⟩ := List.mem_map.1 h1
  exact ⟨x, hx, (Prod.mk.inj hxe).1.symm⟩
theorem find_pi {P : Program} {t ks s e : Nat} {z : Value} (hT : PiT P t ks s e z) {es : Array MapEntry} {m : List (Pi2 × Value)} (h : kvOf es = pikv m) (hm : ∀ x ∈ m, piOk x.1) (hn : (m.map (·.1)).Nodup) {k : Pi2} (hk : piOk k) (w : World) :
    (aget m k = none ∧ (Instr.findKey ks (ikey k) es.toList).run P w = .ok none w) ∨ ∃ (j : Nat) (e0 : MapEntry), es[j]? = some e0 ∧ e0.key = ikey k ∧ aget m k = some e0.val ∧ (Instr.findKey ks (ikey k) es.toList).run P w = .ok (some (j, e0.val)) w := by
  obtain ⟨l, hl⟩ := hT.key hk
  have hall : ∀ e ∈ es.toList, ∃ l, keyOf P ks e.key = some l := fun e he => by
    obtain ⟨x, hx, hxe⟩ := keys_all2 h e he
    rw [hxe]; exact hT.key (hm x hx)
  rcases hT.law.find w hl es.toList hall with ⟨h1, h2⟩ | ⟨j, e0, h1, h2, h3⟩
  · refine .inl ⟨aget_none2 fun x hx e => ?_, h1⟩
    obtain ⟨i, hi⟩ := List.getElem?_of_mem hx
    have h4 : (kvOf es)[i]? = some (ikey x.1, x.2) := by rw [h]; unfold pikv; rw [List.getElem?_map, hi]; rfl
    unfold kvOf at h4
    rw [List.getElem?_map, Option.map_eq_some_iff] at h4
    obtain ⟨e0, h5, h6⟩ := h4
    exact h2 e0 (List.mem_of_getElem? h5) (by rw [(Prod.mk.inj h6).1, e])
  · have h4 : es[j]? = some e0 := by rw [← Array.getElem?_toList]; exact h2
    exact .inr ⟨j, e0, h4, h3, aget_some2 hn (ent_at2 h h4 h3), h1⟩

section
variable {P : Program} {c : Ctx} {ops : Array Oper} {Q : Exit → Act → World → Prop} {rest : List Oper} {sL hP : List (Nat × Ent)} {o : Oper}
theorem look2_pi {t ks s e : Nat} {z : Value} (hT : PiT P t ks s e z) {b clock : Nat} {es : Array MapEntry} {m : List (Pi2 × Value)} (h : kvOf es = pikv m) (hm : ∀ x ∈ m, piOk x.1) (hn : (m.map (·.1)).Nodup) {k : Pi2} (hk : piOk k) {w : World} (hb : w.heap[b]? = some (.map es clock)) : (Instr.lookup t (.map (some b)) (ikey k) true).run P w = .ok (.tuple [(aget m k).getD z, .bool (aget m k).isSome].toArray) w := by
  obtain ⟨l, hl⟩ := hT.key hk
  have hck := fun em => hT.law.check w em hl
  unfold Instr.lookup
  simp only [Sem.run_bind, run_underlying hT.ht, Result.andThen_ok, getObj, Sem.run, hb, hck]
  rcases find_pi hT h hm hn hk w with ⟨h1, h2⟩ | ⟨j, e0, h3, h4, h1, h2⟩
  · simp [h1, h2, hck, ZeroT.run hT.hz]
  · simp [h1, h2, hck]
theorem q_look2P {t ks s e : Nat} {z u : Value} {x y : Operand} {mv : Value} {V : Value} {m : List (Pi2 × Value)} {k : Pi2} {b : Bool} {p : PV} (l : Nat) (hT : PiT P t ks s e z) (hm : ∀ x ∈ m, piOk x.1) (hn : (m.map (·.1)).Nodup) (hk : piOk k) (hu : (aget m k).getD z = u) (hb : (aget m k).isSome = b) (ho : o.op = .lookup t x y true := by exact rfl) (hx : ev sL x = some (mv, p) := by exact rfl) (hl : lk hP l = some (mv, .omap (pikv m)) := by exact rfl) (hy : ev sL y = some (V, .agg [.val (.int .i64 k.1), .val (.int .i64 k.2)]) := by exact rfl) : YE P (⟨sL, hP⟩ : St) o (· = .tuple [u, .bool b].toArray) (.tup [.val u, .val (.bool b)]) := .exact fun M F a w H => by
  subst hu hb
  have hv := (H.ev hx).1
  obtain ⟨hkv, hS⟩ := H.ev hy
  have hV : V = ikey k := agg_plain (us := [.int .i64 k.1, .int .i64 k.2]) hS
  rw [hV] at hkv
  obtain ⟨b, es, clock, rfl, he, h, _⟩ := (H.tr l _ _ hl).map
  refine ⟨.tup [(aget m k).getD z, .bool (aget m k).isSome] _ rfl fun i x p hx hp => ?_, by simp [execOp, ho, hv, hkv, look2_pi hT he.symm hm hn hk h]⟩
  match i with
  | 0 => simp at hx hp; subst hx hp; exact .val _
  | 1 => simp at hx hp; subst hx hp; exact .val _
  | i + 2 => simp at hx
theorem s_mput2 {t ks s e : Nat} {z : Value} {x y u : Operand} {mv V v : Value} {m : List (Pi2 × Value)} {k : Pi2} {p r : PV} (l : Nat) (hT : PiT P t ks s e z) (hm : ∀ x ∈ m, piOk x.1) (hn : (m.map (·.1)).Nodup) (hk : piOk k) (hno : aget m k = none)
    (kk : aL P c ops Q rest ⟨sL, put l (mv, .omap (pikv (m ++ [(k, v)]))) hP⟩) (hw : wants ops sL o = some true := by exact rfl) (hd : o.dst = none := by exact rfl) (ho : o.op = .mapUpdate t x y u ∨ o.op = .insert t x y u := by first | exact .inl rfl | exact .inr rfl) (hx : ev sL x = some (mv, p) := by exact rfl) (hl : lk hP l = some (mv, .omap (pikv m)) := by exact rfl) (hy : ev sL y = some (V, .agg [.val (.int .i64 k.1), .val (.int .i64 k.2)]) := by exact rfl) (hu : ev sL u = some (v, r) := by exact rfl) : aL P c ops Q (o :: rest) (⟨sL, hP⟩ : St) :=
  aL_run hw fun a w F H => by
    have hxv := (H.rd.ev hx).1
    obtain ⟨hyv, hS⟩ := H.rd.ev hy
    have hV : V = ikey k := agg_plain (us := [.int .i64 k.1, .int .i64 k.2]) hS
    rw [hV] at hyv
    have huv := (H.rd.ev hu).1
    obtain ⟨b, es, clock, rfl, he, hb, hFb, hWf⟩ := (H.tr l _ _ hl).mapW
    obtain ⟨lt', hlt'⟩ := hT.key hk
    have hck := hT.law.check w false hlt'
    have main : ∀ (es' : Array MapEntry) (clock' : Nat), WfM es' clock' → kvOf es' = pikv (m ++ [(k, v)]) → Holds c ⟨sL, put l (.map (some b), .omap (pikv (m ++ [(k, v)]))) hP⟩ a { w with heap := w.heap.setIfInBounds b (.map es' clock') } := fun es' clock' hW' he' => by
      have hlt := blk_lt hb
      have hch : Chg (fun x => x = b) w { w with heap := w.heap.setIfInBounds b (.map es' clock') } := ⟨rfl, rfl, rfl, by simp, fun i hi hne => by
        rw [Array.getElem?_setIfInBounds_ne (fun e => hne e.symm)]⟩
      refine ⟨F, H.change0 (fun l' => l' = l) (hch.wid fun x hx => .inl ⟨l, _, rfl, hl, (hFb x).2 hx⟩) (fun l' x hne hx' => ?_) (fun l' x b' hT' hx' hb' => ?_) (fun hmm l' u q hT' hx' => ?_) (fun l1 l2 _ _ _ h1 h2 hne => absurd (h1.trans h2.symm) hne)⟩
      · rcases lk_put hx' with ⟨e1, _⟩ | ⟨_, e1⟩
        · exact absurd e1.symm hne
        · exact ⟨e1, rfl⟩
      · subst hT'; exact .inl ⟨l', _, rfl, hl, hb'⟩
      · subst hT'
        rw [lk_put_self] at hx'
        cases hx'
        rw [← he']
        exact .omap b es' clock' (by simp [hlt]) hFb hW'
    unfold Oper.wp
    rcases find_pi hT he.symm hm hn hk w with ⟨h1, h2⟩ | ⟨j, e0, h3, h4, h1, h2⟩
    · have hkv : kvOf (es.push { key := ikey k, val := v, born := clock }) = pikv (m ++ [(k, v)]) := by
        unfold pikv at he ⊢
        rw [List.map_append, he]
        simp [kvOf]
      unfold execOp
      rcases ho with ho | ho
      · simp [ho, hxv, hyv, huv, Instr.mapUpdate, run_underlying hT.ht, getObj, setObj, Sem.run, hb, hck, h2, Oper.upon, hd, Act.put]
        exact kk _ _ (main _ _ (wf_push hWf) hkv)
      · simp [ho, hxv, hyv, huv, Instr.mapUpdate, run_underlying hT.ht, getObj, setObj, Sem.run, hb, hck, h2, Oper.upon, hd, Act.put]
        exact kk _ _ (main _ _ (wf_push hWf) hkv)
    · rw [hno] at h1; cases h1
end
section
variable {P : Program} {sL hP : List (Nat × Ent)} {o : Oper}
theorem q_build311 {t : Nat} {x y u : Operand} {V vy vu z z0 z1 z2 z3 z4 : Value} {p0 p1 p2 py pu : PV} (hT : stInfo P t = some (z, [(0, 3), (3, 1), (4, 1)])) (hzs : z.cells = #[z0, z1, z2, z3, z4]) (hy1 : vy.oneCell' = true) (hu1 : vu.oneCell' = true) (ho : o.op = .build t #[(0, x), (1, y), (2, u)] := by exact rfl) (hx : ev sL x = some (V, .agg [p0, p1, p2]) := by exact rfl) (hy : ev sL y = some (vy, py) := by exact rfl) (hu : ev sL u = some (vu, pu) := by exact rfl) : YE P (⟨sL, hP⟩ : St) o (fun _ => True) (.agg [p0, p1, p2, py, pu]) := fun M F a w H => by
  obtain ⟨hx1, hx2⟩ := H.ev hx
  obtain ⟨hy2, hy3⟩ := H.ev hy
  obtain ⟨hu2, hu3⟩ := H.ev hu
  generalize hp : PV.agg [p0, p1, p2] = p at hx2
  cases hx2 with
  | agg vs ps hl hV =>
    cases hp
    match vs, hl, hV with
    | [a0, a1, a2], _, hV =>
      have s0 := hV 0 a0 p0 rfl rfl
      have s1 := hV 1 a1 p1 rfl rfl
      have s2 := hV 2 a2 p2 rfl rfl
      refine ⟨.agg [a0, a1, a2, vy, vu].toArray, trivial, .agg _ _ rfl fun i v q hv hq => ?_, fun N W _ _ _ => ?_⟩
      · match i with
        | 0 => simp at hv hq; subst hv hq; exact s0
        | 1 => simp at hv hq; subst hv hq; exact s1
        | 2 => simp at hv hq; subst hv hq; exact s2
        | 3 => simp at hv hq; subst hv hq; exact hy3
        | 4 => simp at hv hq; subst hv hq; exact hu3
        | i + 5 => simp at hv
      · have c1 := cells_one hy1
        have c2 := cells_one hu1
        have hb : P.built t [(0, Value.agg [a0, a1, a2].toArray), (1, vy), (2, vu)] = some [a0, a1, a2, vy, vu].toArray := by
          unfold stInfo at hT
          split at hT
          · rename_i i fs hi hf
            split at hT
            · rename_i z' pl hz hpl
              cases hT
              unfold Program.built
              simp only [hi, hf, hz, hpl, hzs]
              have h0 : (Value.agg #[a0, a1, a2]).cells = #[a0, a1, a2] := rfl
              simp [Instr.fill, h0, c1, c2, Array.zipIdx]
            · cases hT
          · cases hT
        have := run_build (P := P) W t #[(0, Value.agg [a0, a1, a2].toArray), (1, vy), (2, vu)] _ hb
        simp [execOp, ho, hx1, hy2, hu2, this]
  | _ => cases hp
end
end Go.En

namespace Go.En
open Go.RowKit Go.Cb
set_option linter.all false
section
variable {P : Program} {c : Ctx} {sL hP : List (Nat × Ent)}
theorem ret_sss {fn : Func} {R : PV → Prop} {t s r : Nat} {v u x : Value} {p q g : PV} (hr : fn.results = #[.tmp t, .tmp s, .tmp r]) (ht : lk sL t = some (v, p)) (hs : lk sL s = some (u, q)) (hx : lk sL r = some (x, g)) (hR : R (.tup [p, q, g])) (hN : ∀ b, ¬ c.N0 b := by intro _ h; exact h) : aR c (bodyPost P fn (RetAF c R)) (⟨sL, hP⟩ : St) := fun a w ⟨F, H⟩ => by
  obtain ⟨h1, h2⟩ := H.sl t v p ht
  obtain ⟨h3, h4⟩ := H.sl s u q hs
  obtain ⟨h5, h6⟩ := H.sl r x g hx
  have hM : ∀ b, b < w.heap.size → (c.M0 b ∨ False) → mof c hP F b := fun b _ hb => by
    rcases hb with hb | hb
    · exact .inl hb
    · exact hb.elim
  refine ⟨H.df, .tuple [v, u, x].toArray, ?_, _, _, fun _ => False, rfl, hR, H.ext.ext (fun b _ => hN b), .shr (.tup [v, u, x] [p, q, g] rfl fun i x r hx hr => ?_) (fun _ h => h), fun _ h => h.elim, H.dw⟩
  · simp [results, hr, Array.getD_eq_getD_getElem?, h1, h3, h5]
  · match i with
    | 0 => simp at hx hr; subst hx hr; exact h2.anti hM
    | 1 => simp at hx hr; subst hx hr; exact h4.anti hM
    | 2 => simp at hx hr; subst hx hr; exact h6.anti hM
    | i + 3 => simp at hx
end
theorem cPx3 {P : Program} {c : Ctx} {ops : Array Oper} {Q : Exit → Act → World → Prop} {rest : List Oper} {sL hP : List (Nat × Ent)} {o : Oper} {p1 p2 p3 : PV} (d : Nat) (hC : CallR P c (⟨sL, hP⟩ : St) o (· = .tup [p1, p2, p3])) (k : ∀ v1 v2 v3, vOf p1 v1 → vOf p2 v2 → vOf p3 v3 → aL P c ops Q rest ⟨put d (.tuple [v1, v2, v3].toArray, .tup [p1, p2, p3]) sL, hP⟩) (hsh : shD (.tup [p1, p2, p3]) = true := by exact rfl) (hw : wants ops sL o = some true := by exact rfl) (hd : o.dst = some d := by exact rfl) (hn : d < c.nt := by exact Nat.le_of_ble_eq_true rfl) : aL P c ops Q (o :: rest) (⟨sL, hP⟩ : St) :=
  call_run hw hC fun a w F w' v p' Fr H hR hx hT hlo hdw => by
    subst hR
    have hS := hT.shD hsh
    rw [hd]
    have hS' : Shr (mof c hP F) w' v (.tup [p1, p2, p3]) := hS.anti fun b _ h => .inl h
    cases hS with
    | tup vs ps hl h =>
      match vs, hl, h, hS' with
      | [v1, v2, v3], _, h, hS' => exact k v1 v2 v3 (h 0 v1 _ rfl rfl).vOf (h 1 v2 _ rfl rfl).vOf (h 2 v3 _ rfl rfl).vOf _ _ ⟨F, put_up H hx hn hS'⟩
end Go.En

namespace Go.Proofs.YtgigclnaicbiaaaGreatDoor
open Go.RowKit Go.Cb Go.En
set_option linter.all false
set_option maxRecDepth 100000

theorem tAgg151_LfP : AggT Tryz.prog 151 2 = true := by kernel_rfl
theorem tAgg25_LfP : AggT Tryz.prog 25 5 = true := by kernel_rfl
theorem tAgg95_LfP : AggT Tryz.prog 95 5 = true := by kernel_rfl
theorem tAr151_LfP : ArrT Tryz.prog 151 2 = true := by kernel_rfl
theorem tEl152_LfP : ElT Tryz.prog 152 151 2 16 (.agg #[(.int .i64 0), (.int .i64 0)]) := ⟨Tryz.underlying152, by kernel_rfl, rfl, by decide⟩
theorem tEl22_LfP : ElT Tryz.prog 22 3 1 8 (.int .i64 0) := ⟨Tryz.underlying22, by kernel_rfl, rfl, by decide⟩
theorem tEl28_LfP : ElT Tryz.prog 28 22 1 24 (.slice none 0 0) := ⟨Tryz.underlying28, by kernel_rfl, rfl, by decide⟩
theorem tEl66_LfP : ElT Tryz.prog 66 4 1 1 (.bool false) := ⟨Tryz.underlying66, by kernel_rfl, rfl, by decide⟩
theorem tFl125_1_LfP : FldT Tryz.prog 125 1 1 = true := by kernel_rfl
theorem tFl125_2_LfP : FldT Tryz.prog 125 2 2 = true := by kernel_rfl
theorem tFl25_1_LfP : FldT Tryz.prog 25 1 1 = true := by kernel_rfl
theorem tFl72_1_LfP : FldT Tryz.prog 72 1 1 = true := by kernel_rfl
theorem tFl93_1_LfP : FldT Tryz.prog 93 1 1 = true := by kernel_rfl
theorem tFl93_2_LfP : FldT Tryz.prog 93 2 2 = true := by kernel_rfl
theorem tFl95_0_LfP : FldT Tryz.prog 95 0 0 = true := by kernel_rfl
theorem tFl95_1_LfP : FldT Tryz.prog 95 1 3 = true := by kernel_rfl
theorem tFl95_2_LfP : FldT Tryz.prog 95 2 4 = true := by kernel_rfl
theorem tNa123_LfP : NoAgg Tryz.prog 123 = true := by kernel_rfl
theorem tNa22_LfP : NoAgg Tryz.prog 22 = true := by kernel_rfl
theorem tNa23_LfP : NoAgg Tryz.prog 23 = true := by kernel_rfl
theorem tNa28_LfP : NoAgg Tryz.prog 28 = true := by kernel_rfl
theorem tNa3_LfP : NoAgg Tryz.prog 3 = true := by kernel_rfl
theorem tNa4_LfP : NoAgg Tryz.prog 4 = true := by kernel_rfl
theorem tNa66_LfP : NoAgg Tryz.prog 66 = true := by kernel_rfl
theorem tSl123_LfP : SlT Tryz.prog 123 23 1 = true := by kernel_rfl
theorem tSl152_LfP : SlT Tryz.prog 152 151 2 = true := by kernel_rfl
theorem tSl22_LfP : SlT Tryz.prog 22 3 1 = true := by kernel_rfl
theorem tSl23_LfP : SlT Tryz.prog 23 72 3 = true := by kernel_rfl
theorem tSl66_LfP : SlT Tryz.prog 66 4 1 = true := by kernel_rfl
theorem tSt93_LfP : stInfo Tryz.prog 93 = some ((.agg #[(.int .i64 0), (.slice none 0 0), (.slice none 0 0)]), ([0, 1, 2] : List Nat).map fun o => (o, 1)) := by kernel_rfl
theorem tSz22_LfP : (Tryz.prog.info? 22).map (·.size) = some 1 := by kernel_rfl
theorem tSz28_LfP : (Tryz.prog.info? 28).map (·.size) = some 1 := by kernel_rfl
theorem tSz3_LfP : (Tryz.prog.info? 3).map (·.size) = some 1 := by kernel_rfl
theorem tSz66_LfP : (Tryz.prog.info? 66).map (·.size) = some 1 := by kernel_rfl
theorem tZr151_LfP : ZeroT Tryz.prog 151 (.agg #[(.int .i64 0), (.int .i64 0)]) := by unfold ZeroT; kernel_rfl
theorem tZr95_LfP : ZeroT Tryz.prog 95 (.agg #[(.int .i64 0), (.slice none 0 0), (.slice none 0 0), (.slice none 0 0), (.slice none 0 0)]) := by unfold ZeroT; kernel_rfl

theorem aDecides_e (op : Int) (x y : Bool) : AF Tryz.prog 120 [pInt op, pBool x, pBool y] (· = pBool (decB op x y)) := by
  refine AF.of_body 30 Tryz.func120 rfl Tryz.ntmps120 (Nat.le_of_ble_eq_true rfl) ?_
  intro w0 M0 vs hl hv
  obtain ⟨v0, v1, v2, rfl⟩ := len3 hl
  obtain rfl := hv 0 _ _ rfl rfl
  obtain rfl := hv 1 _ _ rfl rfl
  obtain rfl := hv 2 _ _ rfl rfl
  clear hl hv
  refine nav ?_
  (refine aC_region ?_
    <;> refine xL 6 q_assign ?_
    <;> refine aL_end (nav ?_) <;> try dsimp only)
  (refine aC_region ?_
    <;> refine xL 7 q_move ?_
    <;> refine aL_end (nav ?_) <;> try dsimp only)
  (refine aC_region ?_
    <;> refine xL 9 q_eql ?_
    <;> refine xL 8 q_assign ?_
    <;> refine aL_end (nav ?_) <;> try dsimp only)
  first | refine cCd (fun hb8 => ?_) (fun hb8 => ?_) | refine cC (fun hb8 => ?_) (fun hb8 => ?_)
  · first
    | exact Bool.noConfusion hb8
    | (
     refine nav ?_
     (refine aC_region ?_
       <;> refine xL 10 q_move ?_
       <;> refine xL 11 q_move ?_
       <;> (refine bL 11 (fun hb11 => ?_) (fun hb11 => ?_) <;> (first | refine kL 12 ?_ | refine xL 12 q_move ?_))
       <;> refine xL 13 q_pick ?_
       <;> refine xL 6 q_assign ?_
       <;> refine aL_end (nav ?_) <;> try dsimp only) <;> (
      refine ret_shr (Tryz.results120) rfl ?_
      unfold decB
      rw [if_pos (by omega)]
      cases x <;> cases y <;> first | rfl | (exfalso; simp_all; done)))
  · first
    | exact Bool.noConfusion hb8
    | (
     refine nav ?_
     (refine aC_region ?_
       <;> refine xL 15 q_eql ?_
       <;> refine xL 14 q_assign ?_
       <;> refine aL_end (nav ?_) <;> try dsimp only)
     first | refine cCd (fun hb14 => ?_) (fun hb14 => ?_) | refine cC (fun hb14 => ?_) (fun hb14 => ?_)
     · first
       | exact Bool.noConfusion hb14
       | (
        refine nav ?_
        (refine aC_region ?_
          <;> refine xL 16 q_move ?_
          <;> refine xL 17 q_move ?_
          <;> (refine bL 17 (fun hb17 => ?_) (fun hb17 => ?_) <;> (first | refine kL 18 ?_ | refine xL 18 q_move ?_))
          <;> refine xL 19 q_pick ?_
          <;> refine xL 6 q_assign ?_
          <;> refine aL_end (nav ?_) <;> try dsimp only) <;> (
         refine ret_shr (Tryz.results120) rfl ?_
         unfold decB
         rw [if_neg (by omega), if_pos (by omega)]
         cases x <;> cases y <;> first | rfl | (exfalso; simp_all; done)))
     · first
       | exact Bool.noConfusion hb14
       | (
        refine nav ?_
        (refine aC_region ?_
          <;> refine xL 21 q_eql ?_
          <;> refine xL 20 q_assign ?_
          <;> refine aL_end (nav ?_) <;> try dsimp only)
        first | refine cCd (fun hb20 => ?_) (fun hb20 => ?_) | refine cC (fun hb20 => ?_) (fun hb20 => ?_)
        · first
          | exact Bool.noConfusion hb20
          | (
           refine nav ?_
           (refine aC_region ?_
             <;> refine xL 22 q_move ?_
             <;> refine xL 23 q_move ?_
             <;> (refine bL 23 (fun hb23 => ?_) (fun hb23 => ?_) <;> (first | refine kL 24 ?_ | refine xL 24 q_move ?_))
             <;> (first | refine kL 25 ?_ | refine xL 25 q_not ?_)
             <;> refine xL 26 q_pick ?_
             <;> refine xL 6 q_assign ?_
             <;> refine aL_end (nav ?_) <;> try dsimp only) <;> (
            refine ret_shr (Tryz.results120) rfl ?_
            unfold decB
            rw [if_neg (by omega), if_neg (by omega), if_pos (by omega)]
            cases x <;> cases y <;> first | rfl | (exfalso; simp_all; done)))
        · first
          | exact Bool.noConfusion hb20
          | (
           refine nav ?_
           (refine aC_region ?_
             <;> refine xL 27 q_move ?_
             <;> refine xL 28 q_move ?_
             <;> refine xL 29 (q_bneq Tryz.underlying4) ?_
             <;> refine xL 6 q_assign ?_
             <;> refine aL_end (nav ?_) <;> try dsimp only)
           refine ret_shr (Tryz.results120) rfl ?_
           unfold decB
           rw [if_neg (by omega), if_neg (by omega), if_neg (by omega)]
           cases x <;> cases y <;> first | rfl | (exfalso; simp_all; done))))
theorem numE_snoc {α κ : Type} [DecidableEq κ] (f : α → κ) (x : α) : ∀ (l : List α) (off : Nat), numE f off (l ++ [x]) = numE f off l ++ [(f x, .int .i64 ((off + l.length : Nat) : Int))]
  | [], off => by simp [numE]
  | y :: l, off => by rw [List.cons_append, numE, numE_snoc f x l (off + 1), numE, List.cons_append, List.length_cons]; congr 5; omega
theorem numE_keys {α κ : Type} [DecidableEq κ] (f : α → κ) : ∀ (l : List α) (off : Nat), (numE f off l).map (·.1) = l.map f
  | [], _ => rfl
  | y :: l, off => by rw [numE, List.map_cons, numE_keys f l (off + 1), List.map_cons]
abbrev PrS := (Nat × Nat) × (Int × Int)
def keyI (x : PrS) : Pi2 := ((x.1.1 : Nat), (x.1.2 : Nat))
theorem keyI_inj {x y : PrS} : keyI x = keyI y ↔ x.1 = y.1 := by
  unfold keyI
  rw [Prod.mk.injEq, Prod.ext_iff]
  omega
theorem keyI_id (o : List PrS) (x : PrS) : posK keyI o (keyI x) = posK Prod.fst o x.1 := posK_inj fun y _ => keyI_inj
def cPr (x : PrS) : List PV := [pInt (x.1.1 : Nat), pInt (x.1.2 : Nat)]
theorem cPr_len (x : PrS) : (cPr x).length = 2 := rfl
theorem snoc_pr (e : Nat) (L : List PrS) (x : PrS) : PV.own e 2 (L.length + 1) (L.flatMap cPr ++ cPr x) = .own e 2 (L ++ [x]).length ((L ++ [x]).flatMap cPr) := by simp
theorem num_lookP (o : List PrS) (x : PrS) : (aget (numE keyI 0 o) (keyI x)).getD (.int .i64 0) = .int .i64 ((if posK keyI o (keyI x) < o.length then posK keyI o (keyI x) else 0 : Nat) : Int) ∧ (aget (numE keyI 0 o) (keyI x)).isSome = decide (posK keyI o (keyI x) < o.length) := by
  rw [numE_get]
  by_cases h : posK keyI o (keyI x) < o.length
  · rw [if_pos h, if_pos h, decide_eq_true h, Nat.zero_add]; exact ⟨rfl, rfl⟩
  · rw [if_neg h, if_neg h, decide_eq_false h]; exact ⟨rfl, rfl⟩
def pFrom (o : List PrS) : List Int := o.map fun x => x.2.1
def pSym (o : List PrS) : List Int := o.map fun x => x.2.2
theorem from_snoc (o : List PrS) (y : PrS) : pFrom (o ++ [y]) = pFrom o ++ [y.2.1] := by unfold pFrom; rw [List.map_append]; rfl
theorem sym_snoc (o : List PrS) (y : PrS) : pSym (o ++ [y]) = pSym o ++ [y.2.2] := by unfold pSym; rw [List.map_append]; rfl
def pPairs (A B : Aut) (op : Int) (q : List PrS × List (List Nat)) : PV := .agg [pInt (A.syms.toNat : Nat), .sl q.2.length (q.2.map pNats), .sl (q.1.map (prodF A B op)).length ((q.1.map (prodF A B op)).map pBool), pInts (pFrom q.1), pInts (pSym q.1)]
def RProd (A B : Aut) (op : Int) (p : PV) : Prop := (∃ q, prodQ A B = some q ∧ p = .tup [pPairs A B op q, pBool true]) ∨
  (prodQ A B = none ∧ ∃ u0 u1 u2 u3 u4 : Value, u0.oneCell' = true ∧ u1.oneCell' = true ∧ u2.oneCell' = true ∧ u3.oneCell' = true ∧ u4.oneCell' = true ∧ p = .tup [.agg [.val u0, .val u1, .val u2, .val u3, .val u4], pBool false])
theorem stPairs : stInfo Tryz.prog 95 = some (.agg #[.int .i64 0, .slice none 0 0, .slice none 0 0, .slice none 0 0, .slice none 0 0], [(0, 3), (3, 1), (4, 1)]) := by kernel_rfl
theorem tPi : PiT Tryz.prog 153 151 3 3 (.int .i64 0) := ⟨Tryz.underlying153, Tryz.underlying151, Tryz.underlying3, by kernel_rfl, by kernel_rfl, by kernel_rfl, by kernel_rfl, by kernel_rfl, fun a b => by kernel_rfl, ⟨Tryz.prog.types.size - 1, by kernel_rfl⟩, by show ZeroT _ _ _; unfold ZeroT; kernel_rfl⟩
set_option maxHeartbeats 4000000 in
theorem aProduct_e (A B : Aut) (op : Int) (hA : DetA A) (hB : DetA B) (hs : A.syms = B.syms) : AF Tryz.prog 104 [pAut A, pAut B, pInt op] (RProd A B op) := by
  have hAn1 := hA.ok.n1
  have hAn0 := hA.ok.n0
  have hBn1 := hB.ok.n1
  have hBn0 := hB.ok.n0
  have hs0 := hA.ok.s0
  have hs1 := hA.ok.s1
  have hsN : ((A.syms.toNat : Nat) : Int) = A.syms := by omega
  have hsB : B.syms.toNat = A.syms.toNat := by rw [hs]
  refine AF.of_body 152 Tryz.func104 rfl Tryz.ntmps104 (Nat.le_of_ble_eq_true rfl) ?_
  intro w0 M0 vs hl hv
  obtain ⟨v0, v1, v2, rfl⟩ := len3 hl
  obtain rfl := hv 2 _ _ rfl rfl
  clear hl hv
  refine nav ?_
  (refine aC_region ?_
    <;> refine s_boxa 3 5 fun h3 => ?_
    <;> refine s_boxa 4 5 fun h4 => ?_
    <;> refine s_alloc [(.int .i64 0), (.slice none 0 0), (.slice none 0 0), (.slice none 0 0), (.slice none 0 0)] 5 6 tZr95_LfP fun h6 => ?_
    <;> refine xL 7 q_assign ?_
    <;> refine aL_end (nav ?_) <;> try dsimp only)
  (refine aC_draw (fun i => ([] : List Nat).elem i) [3, 4] (by kernel_rfl) ?_
    <;> (refine yD 0 21 rfl (q_ldao 3 tAgg25_LfP) fun v21 hv21 => ?_; cases hv21)
    <;> (refine yD 2 23 rfl (q_ldao 4 tAgg25_LfP) fun v23 hv23 => ?_; cases hv23)
    <;> (refine aD_one 1 (by kernel_rfl) ?_)
    <;> (refine aW_call (d := 22) rfl (cA Tryz.call58 (aGraphOf_e A hA.ok)) fun v22 hv22 => ?_; cases hv22)
    <;> (refine aD_one 3 (by kernel_rfl) ?_)
    <;> (refine aW_call (d := 24) rfl (cA Tryz.call58 (aGraphOf_e B hB.ok)) fun v24 hv24 => ?_; cases hv24)
    <;> refine xE 4 8 rfl q_assign ?_
    <;> refine xE 5 9 rfl q_assign ?_
    <;> refine aD_end (by kernel_rfl) (nav ?_)
    <;> try dsimp only)
  (refine aC_region ?_
    <;> refine xL 25 (q_fldo 3 tFl25_1_LfP) ?_
    <;> (refine yL 26 (q_ldo 3 tNa3_LfP) fun v26 hv26 => ?_; cases hv26)
    <;> refine xL 27 (q_build tSt93_LfP) ?_
    <;> refine s_lit1 (kk := 1) 28 tEl22_LfP fun h28 ho28 => ?_
    <;> (refine s_lit1 (kk := 1) 29 tEl22_LfP fun h29 ho29 => ?_; have q28 : En.one (PV.val h28) = true := ho28; have q29 : En.one (PV.val h29) = true := ho29)
    <;> refine yL 30 (q_build311 stPairs rfl ho28 ho29) fun v30 _ => ?_
    <;> refine s_alloc [(.int .i64 0), (.slice none 0 0), (.slice none 0 0), (.slice none 0 0), (.slice none 0 0)] 5 10 tZr95_LfP fun h10 => ?_
    <;> refine s_sta 10 tAgg95_LfP ?_
    <;> refine aL_end (nav ?_) <;> try dsimp only)
  refine aC_ent (nilCells (l := 10) [pInt A.syms, .own 22 1 0 [], .own 4 1 0 [], .val h28, .val h29] rfl rfl (fun i p p' h1 h2 => by
    match i with
    | 0 => cases h1; cases h2; exact .inl rfl
    | 1 => cases h1; cases h2; exact .inr ⟨rfl, _, _, rfl⟩
    | 2 => cases h1; cases h2; exact .inr ⟨rfl, _, _, rfl⟩
    | 3 => cases h1; cases h2; exact .inl rfl
    | 4 => cases h1; cases h2; exact .inl rfl
    | i + 5 => simp at h2)) fun _ => ?_
  refine aC_ent (focusO (l := 10) (l' := 301) (j := 1) rfl rfl rfl rfl) fun i => ?_
  obtain ⟨v301, ho301⟩ := i
  refine aC_ent (focusO (l := 10) (l' := 302) (j := 2) rfl rfl rfl rfl) fun i => ?_
  obtain ⟨v302, ho302⟩ := i
  dsimp only [List.set]
  refine aC_ent (relabel (l := 28) 303 rfl rfl) fun _ => ?_
  refine aC_ent (relabel (l := 29) 304 rfl rfl) fun _ => ?_
  refine aC_ent (recast (l := 303) (p' := .own 3 1 (pFrom [((0, 0), (-1, -1))]).length ((pFrom [((0, 0), (-1, -1))]).map pInt)) rfl rfl) fun _ => ?_
  refine aC_ent (recast (l := 304) (p' := .own 3 1 (pSym [((0, 0), (-1, -1))]).length ((pSym [((0, 0), (-1, -1))]).map pInt)) rfl rfl) fun _ => ?_
  (refine aC_region ?_
    <;> refine xL 31 (q_build2 tAr151_LfP tZr151_LfP) ?_
    <;> refine s_lit1a 32 tEl152_LfP fun h32 ho32 => ?_
    <;> refine xL 11 q_assign ?_
    <;> refine aL_end (nav ?_) <;> try dsimp only)
  refine aC_ent (relabel (l := 32) 305 rfl rfl) fun _ => ?_
  refine aC_ent (recast (l := 305) (p' := .own 151 2 ([((0, 0), (-1, -1))] : List PrS).length (([((0, 0), (-1, -1))] : List PrS).flatMap cPr)) rfl rfl) fun _ => ?_
  (refine aC_region ?_
    <;> refine s_mkmap 33 fun h33 ho33 => ?_
    <;> refine xL 34 (q_build2 tAr151_LfP tZr151_LfP) ?_
    <;> (refine s_mput2 (m := []) (k := ((0 : Int), (0 : Int))) 33 tPi (fun x hx => by simp at hx) (by simp) ⟨by decide, by decide⟩ rfl ?_; rw [show ([] : List (Pi2 × Value)) ++ [(((0 : Int), (0 : Int)), Value.int .i64 0)] = numE keyI 0 [((0, 0), (-1, -1))] from rfl])
    <;> refine xL 35 q_move ?_
    <;> refine xL 12 q_assign ?_
    <;> refine aL_end (nav ?_) <;> try dsimp only)
  refine aC_ent (relabel (l := 33) 306 rfl rfl) fun _ => ?_
  (refine aC_region ?_
    <;> refine xL 13 q_assign ?_
    <;> refine aL_end (nav ?_) <;> try dsimp only)
  refine aC_loop (ι := { q : Nat × Value × Value × Value × Value × Value × List PrS × List (List Nat) // (prodW A B).upto ((0, 0), (-1, -1)) q.1 = some (q.2.2.2.2.2.2.1, q.2.2.2.2.2.2.2) ∧ q.1 ≤ q.2.2.2.2.2.2.1.length ∧ q.2.1.oneCell' = true ∧ q.2.2.1.oneCell' = true ∧ q.2.2.2.1.oneCell' = true ∧ q.2.2.2.2.1.oneCell' = true ∧ q.2.2.2.2.2.1.oneCell' = true }) (fun k => ⟨[(2, _, _), (3, _, _), (4, _, _), (6, _, _), (7, _, _), (8, _, _), (9, _, _), (10, _, _), (12, _, _), (11, k.1.2.2.2.2.2.1, .val k.1.2.2.2.2.2.1), (13, .int .i64 k.1.1, pInt k.1.1)], [(3, _, _), (4, _, _), (6, _, _), (10, h10, .own 95 5 1 [pInt A.syms, .val k.1.2.1, .val k.1.2.2.1, .val k.1.2.2.2.1, .val k.1.2.2.2.2.1]), (301, k.1.2.1, .own 22 1 k.1.2.2.2.2.2.2.2.length (k.1.2.2.2.2.2.2.2.map pNats)), (302, k.1.2.2.1, .own 4 1 ((k.1.2.2.2.2.2.2.1.take k.1.1).map (prodF A B op)).length (((k.1.2.2.2.2.2.2.1.take k.1.1).map (prodF A B op)).map pBool)), (303, k.1.2.2.2.1, .own 3 1 (pFrom k.1.2.2.2.2.2.2.1).length ((pFrom k.1.2.2.2.2.2.2.1).map pInt)), (304, k.1.2.2.2.2.1, .own 3 1 (pSym k.1.2.2.2.2.2.2.1).length ((pSym k.1.2.2.2.2.2.2.1).map pInt)), (305, k.1.2.2.2.2.2.1, .own 151 2 k.1.2.2.2.2.2.2.1.length (k.1.2.2.2.2.2.2.1.flatMap cPr)), (306, h33, .omap (pikv (numE keyI 0 k.1.2.2.2.2.2.2.1)))]⟩) (fun k => 2000 - k.1.1) ⟨(0, v301, v302, h28, h29, h32, [((0, 0), (-1, -1))], []), rfl, Nat.zero_le _, ho301, ho302, ho28, ho29, ho32⟩ (fun a w H => H.weaken ⟨rfl, rfl, rfl, rfl, rfl, rfl, rfl, rfl, rfl, rfl, rfl, trivial⟩ ⟨rfl, rfl, rfl, rfl, rfl, rfl, rfl, rfl, rfl, rfl, trivial⟩) ?_
  rintro ⟨⟨i, r1, r2, r3, r4, r5, o, rows⟩, hU, hi, hr1, hr2, hr3, hr4, hr5⟩
  dsimp only
  dsimp only at hU hi hr1 hr2 hr3 hr4 hr5
  obtain ⟨hOk, hRl, _⟩ := prod_ok hA hB hs hU
  have hRl := hRl hi
  have hcap : o.length ≤ 2000 := hOk.cap
  have hfl : ((o.take i).map (prodF A B op)).length ≤ 2000 := by rw [List.length_map, List.length_take]; omega
  have q1 : En.one (PV.val r1) = true := hr1
  have q2 : En.one (PV.val r2) = true := hr2
  have q3 : En.one (PV.val r3) = true := hr3
  have q4 : En.one (PV.val r4) = true := hr4
  refine nav ?_
  (refine aC_region ?_
    <;> refine xL 36 q_move ?_
    <;> refine xL 37 q_move ?_
    <;> refine xL 38 (q_leno 305 tSl152_LfP) ?_
    <;> refine xL 39 q_lss ?_
    <;> refine aL_end (nav ?_) <;> try dsimp only)
  first | refine cCd (fun hb39 => ?_) (fun hb39 => ?_) | refine cC (fun hb39 => ?_) (fun hb39 => ?_)
  · first
    | exact Bool.noConfusion hb39
    | (
     obtain ⟨x, hx⟩ := get_some (show i < o.length by omega)
     have hxp := hOk.p x (List.mem_of_getElem? hx)
     have hx1 : x.1.1 < A.n.toNat := hxp.1
     have hx2 : x.1.2 < B.n.toNat := hxp.2
     have e1 : (o.flatMap cPr)[i * 2 + 0]? = some (pInt (x.1.1 : Nat)) := flat_at cPr_len hx (by decide)
     have e2 : (o.flatMap cPr)[i * 2 + 1]? = some (pInt (x.1.2 : Nat)) := flat_at cPr_len hx (by decide)
     refine nav ?_
     (refine aC_draw (fun i => ([] : List Nat).elem i) [305] (by kernel_rfl) ?_
       <;> refine xD 0 42 rfl q_move ?_
       <;> refine xD 1 43 rfl q_move ?_
       <;> refine xD 2 44 rfl (q_idxoN 305 tSl152_LfP) ?_
       <;> refine xD 3 45 rfl (q_idxa (len := 2) (i := 0) 305 (by kernel_rfl)) ?_
       <;> (refine yD 4 46 rfl (q_ldo 305 tNa3_LfP) fun v46 hv46 => ?_; cases hv46)
       <;> refine xD 5 47 rfl q_move ?_
       <;> refine xD 6 48 rfl q_move ?_
       <;> refine xD 7 49 rfl (q_idxoN 305 tSl152_LfP) ?_
       <;> refine xD 8 50 rfl (q_idxa (len := 2) (i := 1) 305 (by kernel_rfl)) ?_
       <;> (refine yD 9 51 rfl (q_ldo 305 tNa3_LfP) fun v51 hv51 => ?_; cases hv51)
       <;> refine xE 10 14 rfl q_assign ?_
       <;> refine xE 11 15 rfl q_assign ?_
       <;> refine aD_end (by kernel_rfl) (nav ?_)
       <;> try dsimp only)
     (refine aC_region ?_
       <;> refine xL 52 (q_fldo 3 tFl25_1_LfP) ?_
       <;> (refine yL 53 (q_ldo 3 tNa3_LfP) fun v53 hv53 => ?_; cases hv53)
       <;> (refine s_make (n := A.syms.toNat) 54 tEl22_LfP (fun h54 ho54 => ?_) (hx := by rw [hsN]; exact rfl) (hy := by rw [hsN]; exact rfl) (hb := by omega))
       <;> refine xL 16 q_assign ?_
       <;> refine aL_end (nav ?_) <;> try dsimp only)
     rw [← rowAt_nil]
     (refine aC_region ?_
       <;> refine xL 55 q_move ?_
       <;> refine xL 56 (q_leno 54 tSl22_LfP) ?_
       <;> refine xL 57 q_move ?_
       <;> refine aL_end (nav ?_) <;> try dsimp only)
     refine aC_loop (ι := { q : Nat × Value × Value × Value × List PrS × List Nat // (prodW A B).row i x o q.1 = some (q.2.2.2.2.1, q.2.2.2.2.2) ∧ q.1 ≤ A.syms.toNat ∧ q.2.1.oneCell' = true ∧ q.2.2.1.oneCell' = true ∧ q.2.2.2.1.oneCell' = true }) (fun k => ⟨[(2, _, _), (3, _, _), (4, _, _), (6, _, _), (7, _, _), (8, _, _), (9, _, _), (10, _, _), (12, _, _), (13, _, _), (14, _, _), (15, _, _), (16, _, _), (56, _, _), (11, k.1.2.2.2.1, .val k.1.2.2.2.1), (57, .int .i64 k.1.1, pInt k.1.1)], [(3, _, _), (4, _, _), (6, _, _), (301, _, _), (302, _, _), (10, h10, .own 95 5 1 [pInt A.syms, .val r1, .val r2, .val k.1.2.1, .val k.1.2.2.1]), (303, k.1.2.1, .own 3 1 (pFrom k.1.2.2.2.2.1).length ((pFrom k.1.2.2.2.2.1).map pInt)), (304, k.1.2.2.1, .own 3 1 (pSym k.1.2.2.2.2.1).length ((pSym k.1.2.2.2.2.1).map pInt)), (305, k.1.2.2.2.1, .own 151 2 k.1.2.2.2.2.1.length (k.1.2.2.2.2.1.flatMap cPr)), (306, h33, .omap (pikv (numE keyI 0 k.1.2.2.2.2.1))), (54, h54, .own 3 1 A.syms.toNat (vec A.syms.toNat fun j => pInt (rowAt k.1.2.2.2.2.2 j)))]⟩) (fun k => A.syms.toNat - k.1.1) ⟨(0, r3, r4, r5, o, []), rfl, Nat.zero_le _, hr3, hr4, hr5⟩ (fun a w H => H.weaken ⟨rfl, rfl, rfl, rfl, rfl, rfl, rfl, rfl, rfl, rfl, rfl, rfl, rfl, rfl, rfl, rfl, trivial⟩ ⟨rfl, rfl, rfl, rfl, rfl, rfl, rfl, rfl, rfl, rfl, rfl, trivial⟩) ?_
     rintro ⟨⟨s, r3', r4', r5', o', r⟩, hW, hsm, hr3', hr4', hr5'⟩
     dsimp only
     dsimp only at hW hsm hr3' hr4' hr5'
     obtain ⟨hMt, hpr, hrl, _⟩ := hOk.toMet.row (fun s hs' => ⟨hA.sl _ _ hx1 hs', hB.sl _ _ hx2 (by have : s < A.syms.toNat := hs'; omega)⟩) (show s ≤ (prodW A B).m from hsm) hW
     have hcap' : o'.length ≤ 2000 := hMt.cap
     have hx' := preG_get hpr hx
     have hil := lt_of_get hx'
     have hpf : (pFrom o').length = o'.length := by unfold pFrom; rw [List.length_map]
     have hps : (pSym o').length = o'.length := by unfold pSym; rw [List.length_map]
     have q3' : En.one (PV.val r3') = true := hr3'
     have q4' : En.one (PV.val r4') = true := hr4'
     refine nav ?_
     (refine aC_region ?_
       <;> refine xL 58 q_lss ?_
       <;> refine aL_end (nav ?_) <;> try dsimp only)
     first | refine cCd (fun hb58 => ?_) (fun hb58 => ?_) | refine cC (fun hb58 => ?_) (fun hb58 => ?_)
     · first
       | exact Bool.noConfusion hb58
       | (
        obtain ⟨mx, hm1, hm2, hm3⟩ := hA.mo x.1.1 s hx1 (by omega)
        obtain ⟨my, hn1, hn2, hn3⟩ := hB.mo x.1.2 s hx2 (by omega)
        have hml := hA.ml x.1.1 hx1
        have hnl := hB.ml x.1.2 hx2
        have d1 : ((List.range A.n.toNat).map fun s => pMvs (movesOf A s))[x.1.1 * 1]? = some (pMvs (movesOf A x.1.1)) := by rw [Nat.mul_one, range_at hx1]
        have d2 : ((List.range B.n.toNat).map fun s => pMvs (movesOf B s))[x.1.2 * 1]? = some (pMvs (movesOf B x.1.2)) := by rw [Nat.mul_one, range_at hx2]
        have d3 : ((movesOf A x.1.1).flatMap cMv)[s * 3 + 1]? = some (pInt (stepA A x.1.1 s : Nat)) := by rw [← hm3]; exact flat_at cMv_len hm1 (by decide)
        have d4 : ((movesOf B x.1.2).flatMap cMv)[s * 3 + 1]? = some (pInt (stepA B x.1.2 s : Nat)) := by rw [← hn3]; exact flat_at cMv_len hn1 (by decide)
        obtain ⟨y, hy⟩ : ∃ y : PrS, y = (prodW A B).step i x s := ⟨_, rfl⟩
        have hyk : keyI y = (((stepA A x.1.1 s : Nat) : Int), ((stepA B x.1.2 s : Nat) : Int)) := by rw [hy]; rfl
        have hy2 : y.2 = (((i : Nat) : Int), ((s : Nat) : Int)) := by rw [hy]; rfl
        have hyp : PairOk A B y := by rw [hy]; exact ⟨hA.sl _ _ hx1 (by omega), hB.sl _ _ hx2 (by omega)⟩
        have hy11 : y.1.1 = stepA A x.1.1 s := by rw [hy]; rfl
        have hy12 : y.1.2 = stepA B x.1.2 s := by rw [hy]; rfl
        have hyp1 : y.1.1 < A.n.toNat := hyp.1
        have hyp2 : y.1.2 < B.n.toNat := hyp.2
        rw [← hy11] at d3
        rw [← hy12] at d4
        have hid := keyI_id o' y
        have hlk := num_lookP o' y
        have hko : ∀ z ∈ numE keyI 0 o', piOk z.1 := fun z hz => by
          have hz1 : z.1 ∈ (numE keyI 0 o').map (·.1) := List.mem_map_of_mem hz
          rw [numE_keys] at hz1
          obtain ⟨u, hu, hue⟩ := List.mem_map.1 hz1
          have hup := hMt.p u hu
          have h1 : u.1.1 < A.n.toNat := hup.1
          have h2 : u.1.2 < B.n.toNat := hup.2
          rw [← hue]
          exact ⟨⟨by show (0 : Int) ≤ (u.1.1 : Nat); omega, by show ((u.1.1 : Nat) : Int) ≤ 1000000; omega⟩, ⟨by show (0 : Int) ≤ (u.1.2 : Nat); omega, by show ((u.1.2 : Nat) : Int) ≤ 1000000; omega⟩⟩
        have hkn : ((numE keyI 0 o').map (·.1)).Nodup := by
          rw [numE_keys]
          have hnd := hMt.nd
          refine map_nodup (nodup_of_map hnd) fun u hu v hv e => ?_
          obtain ⟨i1, hi1⟩ := List.getElem?_of_mem hu
          obtain ⟨i2, hi2⟩ := List.getElem?_of_mem hv
          have p1 := posK_idx hnd hi1
          have p2 := posK_idx hnd hi2
          have e2 : (prodW A B).key u = (prodW A B).key v := keyI_inj.1 e
          rw [e2, p2] at p1
          rw [p1, hi1] at hi2
          exact Option.some.inj hi2
        have hky : piOk (keyI y) := ⟨⟨by show (0 : Int) ≤ (y.1.1 : Nat); omega, by show ((y.1.1 : Nat) : Int) ≤ 1000000; omega⟩, ⟨by show (0 : Int) ≤ (y.1.2 : Nat); omega, by show ((y.1.2 : Nat) : Int) ≤ 1000000; omega⟩⟩
        have e3 := vec_len A.syms.toNat (fun j => pInt (rowAt r j))
        refine nav ?_
        (refine aC_region ?_
          <;> refine xL 59 q_move ?_
          <;> refine xL 17 q_assign ?_
          <;> refine aL_end (nav ?_) <;> try dsimp only)
        (refine aC_draw (fun i => ([] : List Nat).elem i) [] (by kernel_rfl) ?_
          <;> refine xD 0 60 rfl q_move ?_
          <;> refine xD 1 61 rfl q_nilp ?_
          <;> refine xD 2 62 rfl (q_fld tFl125_1_LfP) ?_
          <;> (refine yD 3 63 rfl (q_ld tNa123_LfP) fun v63 hv63 => ?_; cases hv63)
          <;> refine xD 4 64 rfl q_move ?_
          <;> refine xD 5 65 rfl (q_idxN tSl123_LfP) ?_
          <;> (refine yD 6 66 rfl (q_ld tNa23_LfP) fun v66 hv66 => ?_; cases hv66)
          <;> refine xD 7 67 rfl q_move ?_
          <;> refine xD 8 68 rfl (q_idxN tSl23_LfP) ?_
          <;> refine xD 9 69 rfl (q_fld tFl72_1_LfP) ?_
          <;> (refine yD 10 70 rfl (q_ld tNa3_LfP) fun v70 hv70 => ?_; cases hv70)
          <;> refine xD 11 71 rfl q_move ?_
          <;> refine xD 12 72 rfl q_nilp ?_
          <;> refine xD 13 73 rfl (q_fld tFl125_1_LfP) ?_
          <;> (refine yD 14 74 rfl (q_ld tNa123_LfP) fun v74 hv74 => ?_; cases hv74)
          <;> refine xD 15 75 rfl q_move ?_
          <;> refine xD 16 76 rfl (q_idxN tSl123_LfP) ?_
          <;> (refine yD 17 77 rfl (q_ld tNa23_LfP) fun v77 hv77 => ?_; cases hv77)
          <;> refine xD 18 78 rfl q_move ?_
          <;> refine xD 19 79 rfl (q_idxN tSl23_LfP) ?_
          <;> refine xD 20 80 rfl (q_fld tFl72_1_LfP) ?_
          <;> (refine yD 21 81 rfl (q_ld tNa3_LfP) fun v81 hv81 => ?_; cases hv81)
          <;> refine xD 22 82 rfl (q_build2 tAr151_LfP tZr151_LfP) ?_
          <;> (refine aD_one 23 (by kernel_rfl) ?_)
          <;> (refine aW_run rfl fun w9 M9 N9 DQ back => ?_)
          <;> refine s_alloc [(.int .i64 0), (.int .i64 0)] 2 18 tZr151_LfP fun h18 => ?_
          <;> refine aL_end (back _ (nrm ?_))
          <;> (refine aD_one 24 (by kernel_rfl) ?_)
          <;> (refine aW_run rfl fun w9 M9 N9 DQ back => ?_)
          <;> refine s_sta 18 tAgg151_LfP ?_
          <;> refine aL_end (back _ (nrm ?_))
          <;> refine aD_end (by kernel_rfl) (nav ?_)
          <;> try dsimp only)
        (refine aC_region ?_
          <;> refine xL 84 q_move ?_
          <;> (refine yL 85 (q_ldao (k := 2) (ps := [pInt (y.1.1 : Nat), pInt (y.1.2 : Nat)]) 18 (by kernel_rfl)) fun v85 hv85 => ?_; cases hv85)
          <;> refine xL 86 (q_look2P (m := numE keyI 0 o') (k := keyI y) 306 tPi hko hkn hky hlk.1 hlk.2) ?_
          <;> refine xL 83 q_move ?_
          <;> refine xL 87 q_extract ?_
          <;> refine xL 88 q_extract ?_
          <;> refine xL 19 q_assign ?_
          <;> refine xL 20 q_assign ?_
          <;> refine aL_end (nav ?_) <;> try dsimp only)
        (refine aC_region ?_
          <;> refine xL 89 q_move ?_
          <;> refine xL 90 q_not ?_
          <;> refine aL_end (nav ?_) <;> try dsimp only)
        refine aC_mid (fun z : { z : Value × Value × Value × List PrS × Nat // z.1.oneCell' = true ∧ z.2.1.oneCell' = true ∧ z.2.2.1.oneCell' = true ∧ visit (prodW A B).key (prodW A B).cap o' ((prodW A B).step i x s) = some (z.2.2.2.1, z.2.2.2.2) } => ⟨[(2, .int .i64 op, pInt op), (3, padd (sbase h3) 0, .val (padd (sbase h3) 0)), (4, padd (sbase h4) 0, .val (padd (sbase h4) 0)), (6, padd (sbase h6) 0, .val (padd (sbase h6) 0)), (7, .bool false, pBool false), (8, v22, pGr A), (9, v24, pGr B), (10, padd (sbase h10) 0, .val (padd (sbase h10) 0)), (11, z.1.2.2.1, .val z.1.2.2.1), (12, h33, .val h33), (13, .int .i64 i, pInt i), (14, .int .i64 x.1.1, pInt x.1.1), (15, .int .i64 x.1.2, pInt x.1.2), (16, h54, .val h54), (17, .int .i64 s, pInt s), (19, .int .i64 z.1.2.2.2.2, pInt z.1.2.2.2.2), (56, .int .i64 A.syms.toNat, pInt A.syms.toNat), (57, .int .i64 s, pInt s)], [(3, h3, .own 25 5 1 [pInt A.n, pInt A.syms, pInts A.start, pInts A.fin, pMvs A.moves]), (4, h4, .own 25 5 1 [pInt B.n, pInt B.syms, pInts B.start, pInts B.fin, pMvs B.moves]), (6, h6, .own 95 5 1 [pInt 0, .val (.slice none 0 0), .val (.slice none 0 0), .val (.slice none 0 0), .val (.slice none 0 0)]), (10, h10, .own 95 5 1 [pInt A.syms, .val r1, .val r2, .val z.1.1, .val z.1.2.1]), (301, r1, .own 22 1 rows.length (rows.map pNats)), (302, r2, .own 4 1 ((o.take i).map (prodF A B op)).length (((o.take i).map (prodF A B op)).map pBool)), (303, z.1.1, .own 3 1 (pFrom z.1.2.2.2.1).length ((pFrom z.1.2.2.2.1).map pInt)), (304, z.1.2.1, .own 3 1 (pSym z.1.2.2.2.1).length ((pSym z.1.2.2.2.1).map pInt)), (305, z.1.2.2.1, .own 151 2 z.1.2.2.2.1.length (z.1.2.2.2.1.flatMap cPr)), (306, h33, .omap (pikv (numE keyI 0 z.1.2.2.2.1))), (54, h54, .own 3 1 A.syms.toNat (vec A.syms.toNat fun j => pInt (rowAt r j)))]⟩) ?_ ?_
        · first | refine cCd (fun hb90 => ?_) (fun hb90 => ?_) | refine cC (fun hb90 => ?_) (fun hb90 => ?_)
          · first
            | exact Bool.noConfusion hb90
            | (
             have hnew : ¬ posK keyI o' (keyI y) < o'.length := by simpa using hb90
             have hnew2 : ¬ posK (prodW A B).key o' ((prodW A B).key ((prodW A B).step i x s)) < o'.length := by
               rw [← hy]
               show ¬ posK Prod.fst o' y.1 < o'.length
               rw [← hid]; exact hnew
             have hno : aget (numE keyI 0 o') (keyI y) = none := by rw [numE_get, if_neg hnew]
             refine nav ?_
             (refine aC_region ?_
               <;> refine xL 91 q_move ?_
               <;> refine xL 92 (q_leno 305 tSl152_LfP) ?_
               <;> refine xL 19 q_assign ?_
               <;> refine aL_end (nav ?_) <;> try dsimp only)
             (refine aC_region ?_
               <;> refine xL 93 q_move ?_
               <;> refine xL 94 q_geq ?_
               <;> refine aL_end (nav ?_) <;> try dsimp only)
             first | refine cCd (fun hb94 => ?_) (fun hb94 => ?_) | refine cC (fun hb94 => ?_) (fun hb94 => ?_)
             · first
               | exact Bool.noConfusion hb94
               | (
                refine nav ?_
                (refine aC_region ?_
                  <;> (refine yL 95 (q_ldao (k := 5) (ps := [pInt A.syms, PV.val r1, PV.val r2, PV.val r3', PV.val r4']) 10 (by kernel_rfl)) fun v95 hv95 => ?_; cases hv95)
                  <;> refine s_sta 6 tAgg95_LfP ?_
                  <;> refine xL 7 q_assign ?_
                  <;> refine aL_end (nav ?_) <;> try dsimp only)
                refine ret_cs (k := 5) 6 (by kernel_rfl) (Tryz.results104) rfl rfl rfl (Nat.le_of_ble_eq_true rfl) (by decide) rfl (.inr ⟨?_, _, _, _, _, _, rfl, hr1, hr2, hr3', hr4', rfl⟩)
                have hv := visit_no hnew2 (show (prodW A B).cap ≤ o'.length by show 2000 ≤ o'.length; omega)
                have h1 := Srch.row_fails (Srch.row_out hW hv) (show s + 1 ≤ (prodW A B).m by show s + 1 ≤ A.syms.toNat; omega)
                exact Srch.all_none (Srch.upto_out hU hx h1) (show i + 1 ≤ (prodW A B).cap by show i + 1 ≤ 2000; omega))
             · first
               | exact Bool.noConfusion hb94
               | (
                refine nav ?_
                (refine aC_region ?_
                  <;> refine xL 96 q_move ?_
                  <;> (refine yL 97 (q_ldao (k := 2) (ps := [pInt (y.1.1 : Nat), pInt (y.1.2 : Nat)]) 18 (by kernel_rfl)) fun v97 hv97 => ?_; cases hv97)
                  <;> refine xL 98 q_move ?_
                  <;> (refine s_mput2 (m := numE keyI 0 o') (k := keyI y) 306 tPi hko hkn hky hno ?_; rw [show numE keyI 0 o' ++ [(keyI y, Value.int .i64 ((o'.length : Nat) : Int))] = numE keyI 0 (o' ++ [y]) by rw [numE_snoc, Nat.zero_add]])
                  <;> refine aL_end (nav ?_) <;> try dsimp only)
                (refine aC_draw (fun i => ([16, 17, 18] : List Nat).elem i) [10, 18] (by kernel_rfl) ?_
                  <;> refine xDT 0 99 rfl q_move ?_
                  <;> (refine yDT 1 100 rfl (q_ldao (k := 2) (ps := [pInt (y.1.1 : Nat), pInt (y.1.2 : Nat)]) 18 (by kernel_rfl)) fun v100 hv100 => ?_; cases hv100)
                  <;> refine xDT 4 103 rfl (q_fldo 10 tFl95_1_LfP) ?_
                  <;> (refine yDT 5 104 rfl (q_ldo 10 tNa22_LfP) fun v104 hv104 => ?_; cases hv104)
                  <;> refine xDT 6 105 rfl q_move ?_
                  <;> refine xDT 9 108 rfl (q_fldo 10 tFl95_2_LfP) ?_
                  <;> (refine yDT 10 109 rfl (q_ldo 10 tNa22_LfP) fun v109 hv109 => ?_; cases hv109)
                  <;> refine xDT 11 110 rfl q_move ?_
                  <;> (refine aD_three 2 7 12 (by kernel_rfl) ?_ ?_ ?_; rotate_right; (focus ((refine aW_run rfl fun w9 M9 N9 DQ back => ?_) <;> refine s_lit1 (kk := 1) 111 tEl22_LfP fun h111 ho111 => ?_ <;> refine aL_end (back _ (nrm ?_)) <;> (refine aD_two 2 7 (by kernel_rfl) ?_ ?_; rotate_right; (focus ((refine aW_run rfl fun w9 M9 N9 DQ back => ?_) <;> refine s_lit1 (kk := 1) 106 tEl22_LfP fun h106 ho106 => ?_ <;> refine aL_end (back _ (nrm ?_)) <;> (refine aD_one 2 (by kernel_rfl) ?_) <;> (refine aW_run rfl fun w9 M9 N9 DQ back => ?_) <;> refine s_lit1a 101 tEl152_LfP fun h101 ho101 => ?_ <;> refine aL_end (back _ (nrm ?_)) <;> (refine aD_one 3 (by kernel_rfl) ?_) <;> (refine aW_run rfl fun w9 M9 N9 DQ back => ?_) <;> refine s_app 305 101 102 tEl152_LfP fun h102 ho102 => ?_ <;> refine aL_end (back _ (nrm ?_)) <;> (refine aD_one 8 (by kernel_rfl) ?_) <;> (refine aW_run rfl fun w9 M9 N9 DQ back => ?_) <;> (refine s_app 303 106 107 tEl22_LfP fun h107 ho107 => ?_; have q107 : En.one (PV.val h107) = true := ho107) <;> refine aL_end (back _ (nrm ?_)) <;> (refine aD_one 13 (by kernel_rfl) ?_) <;> (refine aW_run rfl fun w9 M9 N9 DQ back => ?_) <;> (refine s_app 304 111 112 tEl22_LfP fun h112 ho112 => ?_; have q112 : En.one (PV.val h112) = true := ho112) <;> refine aL_end (back _ (nrm ?_)) <;> refine xE 14 11 rfl q_assign ?_ <;> refine xE 15 113 rfl (q_fldo 10 tFl95_1_LfP) ?_ <;> (refine aD_one 16 (by kernel_rfl) ?_) <;> (refine aW_thenZ rfl rfl fun DQ back => ?_) <;> refine s_st 10 tNa22_LfP tSz22_LfP ?_ <;> refine aL_end (back _ ?_) <;> (refine aDZ_one 17 (by kernel_rfl) rfl rfl fun DQ back => ?_) <;> refine xL 114 (q_fldo 10 tFl95_2_LfP) ?_ <;> refine aL_end (back _ ?_) <;> (refine aDZ_one 18 (by kernel_rfl) rfl rfl fun DQ back => ?_) <;> refine s_st 10 tNa22_LfP tSz22_LfP ?_ <;> refine aL_end (back _ ?_) <;> refine aDZ_end (by kernel_rfl) (nav ?_))); rotate_right; (focus ((refine aW_run rfl fun w9 M9 N9 DQ back => ?_) <;> refine s_lit1a 101 tEl152_LfP fun h101 ho101 => ?_ <;> refine aL_end (back _ (nrm ?_)) <;> (refine aD_two 3 7 (by kernel_rfl) ?_ ?_; rotate_right; (focus ((refine aW_run rfl fun w9 M9 N9 DQ back => ?_) <;> refine s_lit1 (kk := 1) 106 tEl22_LfP fun h106 ho106 => ?_ <;> refine aL_end (back _ (nrm ?_)) <;> (refine aD_one 3 (by kernel_rfl) ?_) <;> (refine aW_run rfl fun w9 M9 N9 DQ back => ?_) <;> refine s_app 305 101 102 tEl152_LfP fun h102 ho102 => ?_ <;> refine aL_end (back _ (nrm ?_)) <;> (refine aD_one 8 (by kernel_rfl) ?_) <;> (refine aW_run rfl fun w9 M9 N9 DQ back => ?_) <;> (refine s_app 303 106 107 tEl22_LfP fun h107 ho107 => ?_; have q107 : En.one (PV.val h107) = true := ho107) <;> refine aL_end (back _ (nrm ?_)) <;> (refine aD_one 13 (by kernel_rfl) ?_) <;> (refine aW_run rfl fun w9 M9 N9 DQ back => ?_) <;> (refine s_app 304 111 112 tEl22_LfP fun h112 ho112 => ?_; have q112 : En.one (PV.val h112) = true := ho112) <;> refine aL_end (back _ (nrm ?_)) <;> refine xE 14 11 rfl q_assign ?_ <;> refine xE 15 113 rfl (q_fldo 10 tFl95_1_LfP) ?_ <;> (refine aD_one 16 (by kernel_rfl) ?_) <;> (refine aW_thenZ rfl rfl fun DQ back => ?_) <;> refine s_st 10 tNa22_LfP tSz22_LfP ?_ <;> refine aL_end (back _ ?_) <;> (refine aDZ_one 17 (by kernel_rfl) rfl rfl fun DQ back => ?_) <;> refine xL 114 (q_fldo 10 tFl95_2_LfP) ?_ <;> refine aL_end (back _ ?_) <;> (refine aDZ_one 18 (by kernel_rfl) rfl rfl fun DQ back => ?_) <;> refine s_st 10 tNa22_LfP tSz22_LfP ?_ <;> refine aL_end (back _ ?_) <;> refine aDZ_end (by kernel_rfl) (nav ?_))); rotate_right; (focus ((refine aW_run rfl fun w9 M9 N9 DQ back => ?_) <;> refine s_app 305 101 102 tEl152_LfP fun h102 ho102 => ?_ <;> refine aL_end (back _ (nrm ?_)) <;> (refine aD_one 7 (by kernel_rfl) ?_) <;> (refine aW_run rfl fun w9 M9 N9 DQ back => ?_) <;> refine s_lit1 (kk := 1) 106 tEl22_LfP fun h106 ho106 => ?_ <;> refine aL_end (back _ (nrm ?_)) <;> (refine aD_one 8 (by kernel_rfl) ?_) <;> (refine aW_run rfl fun w9 M9 N9 DQ back => ?_) <;> (refine s_app 303 106 107 tEl22_LfP fun h107 ho107 => ?_; have q107 : En.one (PV.val h107) = true := ho107) <;> refine aL_end (back _ (nrm ?_)) <;> (refine aD_one 13 (by kernel_rfl) ?_) <;> (refine aW_run rfl fun w9 M9 N9 DQ back => ?_) <;> (refine s_app 304 111 112 tEl22_LfP fun h112 ho112 => ?_; have q112 : En.one (PV.val h112) = true := ho112) <;> refine aL_end (back _ (nrm ?_)) <;> refine xE 14 11 rfl q_assign ?_ <;> refine xE 15 113 rfl (q_fldo 10 tFl95_1_LfP) ?_ <;> (refine aD_one 16 (by kernel_rfl) ?_) <;> (refine aW_thenZ rfl rfl fun DQ back => ?_) <;> refine s_st 10 tNa22_LfP tSz22_LfP ?_ <;> refine aL_end (back _ ?_) <;> (refine aDZ_one 17 (by kernel_rfl) rfl rfl fun DQ back => ?_) <;> refine xL 114 (q_fldo 10 tFl95_2_LfP) ?_ <;> refine aL_end (back _ ?_) <;> (refine aDZ_one 18 (by kernel_rfl) rfl rfl fun DQ back => ?_) <;> refine s_st 10 tNa22_LfP tSz22_LfP ?_ <;> refine aL_end (back _ ?_) <;> refine aDZ_end (by kernel_rfl) (nav ?_))))))))); rotate_right; (focus ((refine aW_run rfl fun w9 M9 N9 DQ back => ?_) <;> refine s_lit1 (kk := 1) 106 tEl22_LfP fun h106 ho106 => ?_ <;> refine aL_end (back _ (nrm ?_)) <;> (refine aD_two 2 12 (by kernel_rfl) ?_ ?_; rotate_right; (focus ((refine aW_run rfl fun w9 M9 N9 DQ back => ?_) <;> refine s_lit1 (kk := 1) 111 tEl22_LfP fun h111 ho111 => ?_ <;> refine aL_end (back _ (nrm ?_)) <;> (refine aD_one 2 (by kernel_rfl) ?_) <;> (refine aW_run rfl fun w9 M9 N9 DQ back => ?_) <;> refine s_lit1a 101 tEl152_LfP fun h101 ho101 => ?_ <;> refine aL_end (back _ (nrm ?_)) <;> (refine aD_one 3 (by kernel_rfl) ?_) <;> (refine aW_run rfl fun w9 M9 N9 DQ back => ?_) <;> refine s_app 305 101 102 tEl152_LfP fun h102 ho102 => ?_ <;> refine aL_end (back _ (nrm ?_)) <;> (refine aD_one 8 (by kernel_rfl) ?_) <;> (refine aW_run rfl fun w9 M9 N9 DQ back => ?_) <;> (refine s_app 303 106 107 tEl22_LfP fun h107 ho107 => ?_; have q107 : En.one (PV.val h107) = true := ho107) <;> refine aL_end (back _ (nrm ?_)) <;> (refine aD_one 13 (by kernel_rfl) ?_) <;> (refine aW_run rfl fun w9 M9 N9 DQ back => ?_) <;> (refine s_app 304 111 112 tEl22_LfP fun h112 ho112 => ?_; have q112 : En.one (PV.val h112) = true := ho112) <;> refine aL_end (back _ (nrm ?_)) <;> refine xE 14 11 rfl q_assign ?_ <;> refine xE 15 113 rfl (q_fldo 10 tFl95_1_LfP) ?_ <;> (refine aD_one 16 (by kernel_rfl) ?_) <;> (refine aW_thenZ rfl rfl fun DQ back => ?_) <;> refine s_st 10 tNa22_LfP tSz22_LfP ?_ <;> refine aL_end (back _ ?_) <;> (refine aDZ_one 17 (by kernel_rfl) rfl rfl fun DQ back => ?_) <;> refine xL 114 (q_fldo 10 tFl95_2_LfP) ?_ <;> refine aL_end (back _ ?_) <;> (refine aDZ_one 18 (by kernel_rfl) rfl rfl fun DQ back => ?_) <;> refine s_st 10 tNa22_LfP tSz22_LfP ?_ <;> refine aL_end (back _ ?_) <;> refine aDZ_end (by kernel_rfl) (nav ?_))); rotate_right; (focus ((refine aW_run rfl fun w9 M9 N9 DQ back => ?_) <;> refine s_lit1a 101 tEl152_LfP fun h101 ho101 => ?_ <;> refine aL_end (back _ (nrm ?_)) <;> (refine aD_two 3 12 (by kernel_rfl) ?_ ?_; rotate_right; (focus ((refine aW_run rfl fun w9 M9 N9 DQ back => ?_) <;> refine s_lit1 (kk := 1) 111 tEl22_LfP fun h111 ho111 => ?_ <;> refine aL_end (back _ (nrm ?_)) <;> (refine aD_one 3 (by kernel_rfl) ?_) <;> (refine aW_run rfl fun w9 M9 N9 DQ back => ?_) <;> refine s_app 305 101 102 tEl152_LfP fun h102 ho102 => ?_ <;> refine aL_end (back _ (nrm ?_)) <;> (refine aD_one 8 (by kernel_rfl) ?_) <;> (refine aW_run rfl fun w9 M9 N9 DQ back => ?_) <;> (refine s_app 303 106 107 tEl22_LfP fun h107 ho107 => ?_; have q107 : En.one (PV.val h107) = true := ho107) <;> refine aL_end (back _ (nrm ?_)) <;> (refine aD_one 13 (by kernel_rfl) ?_) <;> (refine aW_run rfl fun w9 M9 N9 DQ back => ?_) <;> (refine s_app 304 111 112 tEl22_LfP fun h112 ho112 => ?_; have q112 : En.one (PV.val h112) = true := ho112) <;> refine aL_end (back _ (nrm ?_)) <;> refine xE 14 11 rfl q_assign ?_ <;> refine xE 15 113 rfl (q_fldo 10 tFl95_1_LfP) ?_ <;> (refine aD_one 16 (by kernel_rfl) ?_) <;> (refine aW_thenZ rfl rfl fun DQ back => ?_) <;> refine s_st 10 tNa22_LfP tSz22_LfP ?_ <;> refine aL_end (back _ ?_) <;> (refine aDZ_one 17 (by kernel_rfl) rfl rfl fun DQ back => ?_) <;> refine xL 114 (q_fldo 10 tFl95_2_LfP) ?_ <;> refine aL_end (back _ ?_) <;> (refine aDZ_one 18 (by kernel_rfl) rfl rfl fun DQ back => ?_) <;> refine s_st 10 tNa22_LfP tSz22_LfP ?_ <;> refine aL_end (back _ ?_) <;> refine aDZ_end (by kernel_rfl) (nav ?_))); rotate_right; (focus ((refine aW_run rfl fun w9 M9 N9 DQ back => ?_) <;> refine s_app 305 101 102 tEl152_LfP fun h102 ho102 => ?_ <;> refine aL_end (back _ (nrm ?_)) <;> (refine aD_two 8 12 (by kernel_rfl) ?_ ?_; rotate_right; (focus ((refine aW_run rfl fun w9 M9 N9 DQ back => ?_) <;> refine s_lit1 (kk := 1) 111 tEl22_LfP fun h111 ho111 => ?_ <;> refine aL_end (back _ (nrm ?_)) <;> (refine aD_one 8 (by kernel_rfl) ?_) <;> (refine aW_run rfl fun w9 M9 N9 DQ back => ?_) <;> (refine s_app 303 106 107 tEl22_LfP fun h107 ho107 => ?_; have q107 : En.one (PV.val h107) = true := ho107) <;> refine aL_end (back _ (nrm ?_)) <;> (refine aD_one 13 (by kernel_rfl) ?_) <;> (refine aW_run rfl fun w9 M9 N9 DQ back => ?_) <;> (refine s_app 304 111 112 tEl22_LfP fun h112 ho112 => ?_; have q112 : En.one (PV.val h112) = true := ho112) <;> refine aL_end (back _ (nrm ?_)) <;> refine xE 14 11 rfl q_assign ?_ <;> refine xE 15 113 rfl (q_fldo 10 tFl95_1_LfP) ?_ <;> (refine aD_one 16 (by kernel_rfl) ?_) <;> (refine aW_thenZ rfl rfl fun DQ back => ?_) <;> refine s_st 10 tNa22_LfP tSz22_LfP ?_ <;> refine aL_end (back _ ?_) <;> (refine aDZ_one 17 (by kernel_rfl) rfl rfl fun DQ back => ?_) <;> refine xL 114 (q_fldo 10 tFl95_2_LfP) ?_ <;> refine aL_end (back _ ?_) <;> (refine aDZ_one 18 (by kernel_rfl) rfl rfl fun DQ back => ?_) <;> refine s_st 10 tNa22_LfP tSz22_LfP ?_ <;> refine aL_end (back _ ?_) <;> refine aDZ_end (by kernel_rfl) (nav ?_))); rotate_right; (focus ((refine aW_run rfl fun w9 M9 N9 DQ back => ?_) <;> (refine s_app 303 106 107 tEl22_LfP fun h107 ho107 => ?_; have q107 : En.one (PV.val h107) = true := ho107) <;> refine aL_end (back _ (nrm ?_)) <;> (refine aD_one 12 (by kernel_rfl) ?_) <;> (refine aW_run rfl fun w9 M9 N9 DQ back => ?_) <;> refine s_lit1 (kk := 1) 111 tEl22_LfP fun h111 ho111 => ?_ <;> refine aL_end (back _ (nrm ?_)) <;> (refine aD_one 13 (by kernel_rfl) ?_) <;> (refine aW_run rfl fun w9 M9 N9 DQ back => ?_) <;> (refine s_app 304 111 112 tEl22_LfP fun h112 ho112 => ?_; have q112 : En.one (PV.val h112) = true := ho112) <;> refine aL_end (back _ (nrm ?_)) <;> refine xE 14 11 rfl q_assign ?_ <;> refine xE 15 113 rfl (q_fldo 10 tFl95_1_LfP) ?_ <;> (refine aD_one 16 (by kernel_rfl) ?_) <;> (refine aW_thenZ rfl rfl fun DQ back => ?_) <;> refine s_st 10 tNa22_LfP tSz22_LfP ?_ <;> refine aL_end (back _ ?_) <;> (refine aDZ_one 17 (by kernel_rfl) rfl rfl fun DQ back => ?_) <;> refine xL 114 (q_fldo 10 tFl95_2_LfP) ?_ <;> refine aL_end (back _ ?_) <;> (refine aDZ_one 18 (by kernel_rfl) rfl rfl fun DQ back => ?_) <;> refine s_st 10 tNa22_LfP tSz22_LfP ?_ <;> refine aL_end (back _ ?_) <;> refine aDZ_end (by kernel_rfl) (nav ?_)))))))))))); rotate_right; (focus ((refine aW_run rfl fun w9 M9 N9 DQ back => ?_) <;> refine s_lit1a 101 tEl152_LfP fun h101 ho101 => ?_ <;> refine aL_end (back _ (nrm ?_)) <;> (refine aD_three 3 7 12 (by kernel_rfl) ?_ ?_ ?_; rotate_right; (focus ((refine aW_run rfl fun w9 M9 N9 DQ back => ?_) <;> refine s_lit1 (kk := 1) 111 tEl22_LfP fun h111 ho111 => ?_ <;> refine aL_end (back _ (nrm ?_)) <;> (refine aD_two 3 7 (by kernel_rfl) ?_ ?_; rotate_right; (focus ((refine aW_run rfl fun w9 M9 N9 DQ back => ?_) <;> refine s_lit1 (kk := 1) 106 tEl22_LfP fun h106 ho106 => ?_ <;> refine aL_end (back _ (nrm ?_)) <;> (refine aD_one 3 (by kernel_rfl) ?_) <;> (refine aW_run rfl fun w9 M9 N9 DQ back => ?_) <;> refine s_app 305 101 102 tEl152_LfP fun h102 ho102 => ?_ <;> refine aL_end (back _ (nrm ?_)) <;> (refine aD_one 8 (by kernel_rfl) ?_) <;> (refine aW_run rfl fun w9 M9 N9 DQ back => ?_) <;> (refine s_app 303 106 107 tEl22_LfP fun h107 ho107 => ?_; have q107 : En.one (PV.val h107) = true := ho107) <;> refine aL_end (back _ (nrm ?_)) <;> (refine aD_one 13 (by kernel_rfl) ?_) <;> (refine aW_run rfl fun w9 M9 N9 DQ back => ?_) <;> (refine s_app 304 111 112 tEl22_LfP fun h112 ho112 => ?_; have q112 : En.one (PV.val h112) = true := ho112) <;> refine aL_end (back _ (nrm ?_)) <;> refine xE 14 11 rfl q_assign ?_ <;> refine xE 15 113 rfl (q_fldo 10 tFl95_1_LfP) ?_ <;> (refine aD_one 16 (by kernel_rfl) ?_) <;> (refine aW_thenZ rfl rfl fun DQ back => ?_) <;> refine s_st 10 tNa22_LfP tSz22_LfP ?_ <;> refine aL_end (back _ ?_) <;> (refine aDZ_one 17 (by kernel_rfl) rfl rfl fun DQ back => ?_) <;> refine xL 114 (q_fldo 10 tFl95_2_LfP) ?_ <;> refine aL_end (back _ ?_) <;> (refine aDZ_one 18 (by kernel_rfl) rfl rfl fun DQ back => ?_) <;> refine s_st 10 tNa22_LfP tSz22_LfP ?_ <;> refine aL_end (back _ ?_) <;> refine aDZ_end (by kernel_rfl) (nav ?_))); rotate_right; (focus ((refine aW_run rfl fun w9 M9 N9 DQ back => ?_) <;> refine s_app 305 101 102 tEl152_LfP fun h102 ho102 => ?_ <;> refine aL_end (back _ (nrm ?_)) <;> (refine aD_one 7 (by kernel_rfl) ?_) <;> (refine aW_run rfl fun w9 M9 N9 DQ back => ?_) <;> refine s_lit1 (kk := 1) 106 tEl22_LfP fun h106 ho106 => ?_ <;> refine aL_end (back _ (nrm ?_)) <;> (refine aD_one 8 (by kernel_rfl) ?_) <;> (refine aW_run rfl fun w9 M9 N9 DQ back => ?_) <;> (refine s_app 303 106 107 tEl22_LfP fun h107 ho107 => ?_; have q107 : En.one (PV.val h107) = true := ho107) <;> refine aL_end (back _ (nrm ?_)) <;> (refine aD_one 13 (by kernel_rfl) ?_) <;> (refine aW_run rfl fun w9 M9 N9 DQ back => ?_) <;> (refine s_app 304 111 112 tEl22_LfP fun h112 ho112 => ?_; have q112 : En.one (PV.val h112) = true := ho112) <;> refine aL_end (back _ (nrm ?_)) <;> refine xE 14 11 rfl q_assign ?_ <;> refine xE 15 113 rfl (q_fldo 10 tFl95_1_LfP) ?_ <;> (refine aD_one 16 (by kernel_rfl) ?_) <;> (refine aW_thenZ rfl rfl fun DQ back => ?_) <;> refine s_st 10 tNa22_LfP tSz22_LfP ?_ <;> refine aL_end (back _ ?_) <;> (refine aDZ_one 17 (by kernel_rfl) rfl rfl fun DQ back => ?_) <;> refine xL 114 (q_fldo 10 tFl95_2_LfP) ?_ <;> refine aL_end (back _ ?_) <;> (refine aDZ_one 18 (by kernel_rfl) rfl rfl fun DQ back => ?_) <;> refine s_st 10 tNa22_LfP tSz22_LfP ?_ <;> refine aL_end (back _ ?_) <;> refine aDZ_end (by kernel_rfl) (nav ?_)))))); rotate_right; (focus ((refine aW_run rfl fun w9 M9 N9 DQ back => ?_) <;> refine s_lit1 (kk := 1) 106 tEl22_LfP fun h106 ho106 => ?_ <;> refine aL_end (back _ (nrm ?_)) <;> (refine aD_two 3 12 (by kernel_rfl) ?_ ?_; rotate_right; (focus ((refine aW_run rfl fun w9 M9 N9 DQ back => ?_) <;> refine s_lit1 (kk := 1) 111 tEl22_LfP fun h111 ho111 => ?_ <;> refine aL_end (back _ (nrm ?_)) <;> (refine aD_one 3 (by kernel_rfl) ?_) <;> (refine aW_run rfl fun w9 M9 N9 DQ back => ?_) <;> refine s_app 305 101 102 tEl152_LfP fun h102 ho102 => ?_ <;> refine aL_end (back _ (nrm ?_)) <;> (refine aD_one 8 (by kernel_rfl) ?_) <;> (refine aW_run rfl fun w9 M9 N9 DQ back => ?_) <;> (refine s_app 303 106 107 tEl22_LfP fun h107 ho107 => ?_; have q107 : En.one (PV.val h107) = true := ho107) <;> refine aL_end (back _ (nrm ?_)) <;> (refine aD_one 13 (by kernel_rfl) ?_) <;> (refine aW_run rfl fun w9 M9 N9 DQ back => ?_) <;> (refine s_app 304 111 112 tEl22_LfP fun h112 ho112 => ?_; have q112 : En.one (PV.val h112) = true := ho112) <;> refine aL_end (back _ (nrm ?_)) <;> refine xE 14 11 rfl q_assign ?_ <;> refine xE 15 113 rfl (q_fldo 10 tFl95_1_LfP) ?_ <;> (refine aD_one 16 (by kernel_rfl) ?_) <;> (refine aW_thenZ rfl rfl fun DQ back => ?_) <;> refine s_st 10 tNa22_LfP tSz22_LfP ?_ <;> refine aL_end (back _ ?_) <;> (refine aDZ_one 17 (by kernel_rfl) rfl rfl fun DQ back => ?_) <;> refine xL 114 (q_fldo 10 tFl95_2_LfP) ?_ <;> refine aL_end (back _ ?_) <;> (refine aDZ_one 18 (by kernel_rfl) rfl rfl fun DQ back => ?_) <;> refine s_st 10 tNa22_LfP tSz22_LfP ?_ <;> refine aL_end (back _ ?_) <;> refine aDZ_end (by kernel_rfl) (nav ?_))); rotate_right; (focus ((refine aW_run rfl fun w9 M9 N9 DQ back => ?_) <;> refine s_app 305 101 102 tEl152_LfP fun h102 ho102 => ?_ <;> refine aL_end (back _ (nrm ?_)) <;> (refine aD_two 8 12 (by kernel_rfl) ?_ ?_; rotate_right; (focus ((refine aW_run rfl fun w9 M9 N9 DQ back => ?_) <;> refine s_lit1 (kk := 1) 111 tEl22_LfP fun h111 ho111 => ?_ <;> refine aL_end (back _ (nrm ?_)) <;> (refine aD_one 8 (by kernel_rfl) ?_) <;> (refine aW_run rfl fun w9 M9 N9 DQ back => ?_) <;> (refine s_app 303 106 107 tEl22_LfP fun h107 ho107 => ?_; have q107 : En.one (PV.val h107) = true := ho107) <;> refine aL_end (back _ (nrm ?_)) <;> (refine aD_one 13 (by kernel_rfl) ?_) <;> (refine aW_run rfl fun w9 M9 N9 DQ back => ?_) <;> (refine s_app 304 111 112 tEl22_LfP fun h112 ho112 => ?_; have q112 : En.one (PV.val h112) = true := ho112) <;> refine aL_end (back _ (nrm ?_)) <;> refine xE 14 11 rfl q_assign ?_ <;> refine xE 15 113 rfl (q_fldo 10 tFl95_1_LfP) ?_ <;> (refine aD_one 16 (by kernel_rfl) ?_) <;> (refine aW_thenZ rfl rfl fun DQ back => ?_) <;> refine s_st 10 tNa22_LfP tSz22_LfP ?_ <;> refine aL_end (back _ ?_) <;> (refine aDZ_one 17 (by kernel_rfl) rfl rfl fun DQ back => ?_) <;> refine xL 114 (q_fldo 10 tFl95_2_LfP) ?_ <;> refine aL_end (back _ ?_) <;> (refine aDZ_one 18 (by kernel_rfl) rfl rfl fun DQ back => ?_) <;> refine s_st 10 tNa22_LfP tSz22_LfP ?_ <;> refine aL_end (back _ ?_) <;> refine aDZ_end (by kernel_rfl) (nav ?_))); rotate_right; (focus ((refine aW_run rfl fun w9 M9 N9 DQ back => ?_) <;> (refine s_app 303 106 107 tEl22_LfP fun h107 ho107 => ?_; have q107 : En.one (PV.val h107) = true := ho107) <;> refine aL_end (back _ (nrm ?_)) <;> (refine aD_one 12 (by kernel_rfl) ?_) <;> (refine aW_run rfl fun w9 M9 N9 DQ back => ?_) <;> refine s_lit1 (kk := 1) 111 tEl22_LfP fun h111 ho111 => ?_ <;> refine aL_end (back _ (nrm ?_)) <;> (refine aD_one 13 (by kernel_rfl) ?_) <;> (refine aW_run rfl fun w9 M9 N9 DQ back => ?_) <;> (refine s_app 304 111 112 tEl22_LfP fun h112 ho112 => ?_; have q112 : En.one (PV.val h112) = true := ho112) <;> refine aL_end (back _ (nrm ?_)) <;> refine xE 14 11 rfl q_assign ?_ <;> refine xE 15 113 rfl (q_fldo 10 tFl95_1_LfP) ?_ <;> (refine aD_one 16 (by kernel_rfl) ?_) <;> (refine aW_thenZ rfl rfl fun DQ back => ?_) <;> refine s_st 10 tNa22_LfP tSz22_LfP ?_ <;> refine aL_end (back _ ?_) <;> (refine aDZ_one 17 (by kernel_rfl) rfl rfl fun DQ back => ?_) <;> refine xL 114 (q_fldo 10 tFl95_2_LfP) ?_ <;> refine aL_end (back _ ?_) <;> (refine aDZ_one 18 (by kernel_rfl) rfl rfl fun DQ back => ?_) <;> refine s_st 10 tNa22_LfP tSz22_LfP ?_ <;> refine aL_end (back _ ?_) <;> refine aDZ_end (by kernel_rfl) (nav ?_))))))))); rotate_right; (focus ((refine aW_run rfl fun w9 M9 N9 DQ back => ?_) <;> refine s_app 305 101 102 tEl152_LfP fun h102 ho102 => ?_ <;> refine aL_end (back _ (nrm ?_)) <;> (refine aD_two 7 12 (by kernel_rfl) ?_ ?_; rotate_right; (focus ((refine aW_run rfl fun w9 M9 N9 DQ back => ?_) <;> refine s_lit1 (kk := 1) 111 tEl22_LfP fun h111 ho111 => ?_ <;> refine aL_end (back _ (nrm ?_)) <;> (refine aD_one 7 (by kernel_rfl) ?_) <;> (refine aW_run rfl fun w9 M9 N9 DQ back => ?_) <;> refine s_lit1 (kk := 1) 106 tEl22_LfP fun h106 ho106 => ?_ <;> refine aL_end (back _ (nrm ?_)) <;> (refine aD_one 8 (by kernel_rfl) ?_) <;> (refine aW_run rfl fun w9 M9 N9 DQ back => ?_) <;> (refine s_app 303 106 107 tEl22_LfP fun h107 ho107 => ?_; have q107 : En.one (PV.val h107) = true := ho107) <;> refine aL_end (back _ (nrm ?_)) <;> (refine aD_one 13 (by kernel_rfl) ?_) <;> (refine aW_run rfl fun w9 M9 N9 DQ back => ?_) <;> (refine s_app 304 111 112 tEl22_LfP fun h112 ho112 => ?_; have q112 : En.one (PV.val h112) = true := ho112) <;> refine aL_end (back _ (nrm ?_)) <;> refine xE 14 11 rfl q_assign ?_ <;> refine xE 15 113 rfl (q_fldo 10 tFl95_1_LfP) ?_ <;> (refine aD_one 16 (by kernel_rfl) ?_) <;> (refine aW_thenZ rfl rfl fun DQ back => ?_) <;> refine s_st 10 tNa22_LfP tSz22_LfP ?_ <;> refine aL_end (back _ ?_) <;> (refine aDZ_one 17 (by kernel_rfl) rfl rfl fun DQ back => ?_) <;> refine xL 114 (q_fldo 10 tFl95_2_LfP) ?_ <;> refine aL_end (back _ ?_) <;> (refine aDZ_one 18 (by kernel_rfl) rfl rfl fun DQ back => ?_) <;> refine s_st 10 tNa22_LfP tSz22_LfP ?_ <;> refine aL_end (back _ ?_) <;> refine aDZ_end (by kernel_rfl) (nav ?_))); rotate_right; (focus ((refine aW_run rfl fun w9 M9 N9 DQ back => ?_) <;> refine s_lit1 (kk := 1) 106 tEl22_LfP fun h106 ho106 => ?_ <;> refine aL_end (back _ (nrm ?_)) <;> (refine aD_two 8 12 (by kernel_rfl) ?_ ?_; rotate_right; (focus ((refine aW_run rfl fun w9 M9 N9 DQ back => ?_) <;> refine s_lit1 (kk := 1) 111 tEl22_LfP fun h111 ho111 => ?_ <;> refine aL_end (back _ (nrm ?_)) <;> (refine aD_one 8 (by kernel_rfl) ?_) <;> (refine aW_run rfl fun w9 M9 N9 DQ back => ?_) <;> (refine s_app 303 106 107 tEl22_LfP fun h107 ho107 => ?_; have q107 : En.one (PV.val h107) = true := ho107) <;> refine aL_end (back _ (nrm ?_)) <;> (refine aD_one 13 (by kernel_rfl) ?_) <;> (refine aW_run rfl fun w9 M9 N9 DQ back => ?_) <;> (refine s_app 304 111 112 tEl22_LfP fun h112 ho112 => ?_; have q112 : En.one (PV.val h112) = true := ho112) <;> refine aL_end (back _ (nrm ?_)) <;> refine xE 14 11 rfl q_assign ?_ <;> refine xE 15 113 rfl (q_fldo 10 tFl95_1_LfP) ?_ <;> (refine aD_one 16 (by kernel_rfl) ?_) <;> (refine aW_thenZ rfl rfl fun DQ back => ?_) <;> refine s_st 10 tNa22_LfP tSz22_LfP ?_ <;> refine aL_end (back _ ?_) <;> (refine aDZ_one 17 (by kernel_rfl) rfl rfl fun DQ back => ?_) <;> refine xL 114 (q_fldo 10 tFl95_2_LfP) ?_ <;> refine aL_end (back _ ?_) <;> (refine aDZ_one 18 (by kernel_rfl) rfl rfl fun DQ back => ?_) <;> refine s_st 10 tNa22_LfP tSz22_LfP ?_ <;> refine aL_end (back _ ?_) <;> refine aDZ_end (by kernel_rfl) (nav ?_))); rotate_right; (focus ((refine aW_run rfl fun w9 M9 N9 DQ back => ?_) <;> (refine s_app 303 106 107 tEl22_LfP fun h107 ho107 => ?_; have q107 : En.one (PV.val h107) = true := ho107) <;> refine aL_end (back _ (nrm ?_)) <;> (refine aD_one 12 (by kernel_rfl) ?_) <;> (refine aW_run rfl fun w9 M9 N9 DQ back => ?_) <;> refine s_lit1 (kk := 1) 111 tEl22_LfP fun h111 ho111 => ?_ <;> refine aL_end (back _ (nrm ?_)) <;> (refine aD_one 13 (by kernel_rfl) ?_) <;> (refine aW_run rfl fun w9 M9 N9 DQ back => ?_) <;> (refine s_app 304 111 112 tEl22_LfP fun h112 ho112 => ?_; have q112 : En.one (PV.val h112) = true := ho112) <;> refine aL_end (back _ (nrm ?_)) <;> refine xE 14 11 rfl q_assign ?_ <;> refine xE 15 113 rfl (q_fldo 10 tFl95_1_LfP) ?_ <;> (refine aD_one 16 (by kernel_rfl) ?_) <;> (refine aW_thenZ rfl rfl fun DQ back => ?_) <;> refine s_st 10 tNa22_LfP tSz22_LfP ?_ <;> refine aL_end (back _ ?_) <;> (refine aDZ_one 17 (by kernel_rfl) rfl rfl fun DQ back => ?_) <;> refine xL 114 (q_fldo 10 tFl95_2_LfP) ?_ <;> refine aL_end (back _ ?_) <;> (refine aDZ_one 18 (by kernel_rfl) rfl rfl fun DQ back => ?_) <;> refine s_st 10 tNa22_LfP tSz22_LfP ?_ <;> refine aL_end (back _ ?_) <;> refine aDZ_end (by kernel_rfl) (nav ?_)))))))))))))
                  <;> try dsimp only) <;> (
                 first
                   | (refine aN_ent (relabel (l := 102) 305 rfl rfl) fun _ => ?_
                      refine aN_ent (recast (l := 305) rfl (snoc_pr _ o' y)) fun _ => ?_
                      refine aN_ent (relabel (l := 107) 303 rfl rfl) fun _ => ?_
                      refine aN_ent (recast (l := 303) (p' := .own 3 1 (pFrom (o' ++ [y])).length ((pFrom (o' ++ [y])).map pInt)) rfl ((own_ints _ (pFrom o') i).trans (by rw [from_snoc, hy2]))) fun _ => ?_
                      refine aN_ent (relabel (l := 112) 304 rfl rfl) fun _ => ?_
                      refine aN_ent (recast (l := 304) (p' := .own 3 1 (pSym (o' ++ [y])).length ((pSym (o' ++ [y])).map pInt)) rfl ((own_ints _ (pSym o') s).trans (by rw [sym_snoc, hy2]))) fun _ => ?_
                      exact aN_join ⟨(h107, h112, h102, o' ++ [y], o'.length), ho107, ho112, ho102, by dsimp only; rw [hy]; exact visit_new hnew2 (show o'.length < 2000 by omega)⟩ ⟨rfl, rfl, rfl, rfl, rfl, rfl, rfl, rfl, rfl, rfl, rfl, rfl, rfl, rfl, rfl, rfl, rfl, rfl, trivial⟩ ⟨rfl, rfl, rfl, rfl, rfl, rfl, rfl, rfl, rfl, rfl, rfl, trivial⟩)
                   | exact aN_join ⟨(r3', r4', r5', o', posK keyI o' (keyI y)), hr3', hr4', hr5', by dsimp only; rw [hid, hy]; exact visit_old hold2⟩ ⟨rfl, rfl, rfl, rfl, rfl, rfl, rfl, rfl, rfl, rfl, rfl, rfl, rfl, rfl, rfl, rfl, rfl, rfl, trivial⟩ ⟨rfl, rfl, rfl, rfl, rfl, rfl, rfl, rfl, rfl, rfl, rfl, trivial⟩)))
          · first
            | exact Bool.noConfusion hb90
            | (
             have hold : posK keyI o' (keyI y) < o'.length := by simpa using hb90
             have hold2 : posK (prodW A B).key o' ((prodW A B).key ((prodW A B).step i x s)) < o'.length := by
               rw [← hy]
               show posK Prod.fst o' y.1 < o'.length
               rw [← hid]; exact hold
             rw [if_pos hold]
             refine nav ?_
             first
               | (refine aN_ent (relabel (l := 102) 305 rfl rfl) fun _ => ?_
                  refine aN_ent (recast (l := 305) rfl (snoc_pr _ o' y)) fun _ => ?_
                  refine aN_ent (relabel (l := 107) 303 rfl rfl) fun _ => ?_
                  refine aN_ent (recast (l := 303) (p' := .own 3 1 (pFrom (o' ++ [y])).length ((pFrom (o' ++ [y])).map pInt)) rfl ((own_ints _ (pFrom o') i).trans (by rw [from_snoc, hy2]))) fun _ => ?_
                  refine aN_ent (relabel (l := 112) 304 rfl rfl) fun _ => ?_
                  refine aN_ent (recast (l := 304) (p' := .own 3 1 (pSym (o' ++ [y])).length ((pSym (o' ++ [y])).map pInt)) rfl ((own_ints _ (pSym o') s).trans (by rw [sym_snoc, hy2]))) fun _ => ?_
                  exact aN_join ⟨(h107, h112, h102, o' ++ [y], o'.length), ho107, ho112, ho102, by dsimp only; rw [hy]; exact visit_new hnew2 (show o'.length < 2000 by omega)⟩ ⟨rfl, rfl, rfl, rfl, rfl, rfl, rfl, rfl, rfl, rfl, rfl, rfl, rfl, rfl, rfl, rfl, rfl, rfl, trivial⟩ ⟨rfl, rfl, rfl, rfl, rfl, rfl, rfl, rfl, rfl, rfl, rfl, trivial⟩)
               | exact aN_join ⟨(r3', r4', r5', o', posK keyI o' (keyI y)), hr3', hr4', hr5', by dsimp only; rw [hid, hy]; exact visit_old hold2⟩ ⟨rfl, rfl, rfl, rfl, rfl, rfl, rfl, rfl, rfl, rfl, rfl, rfl, rfl, rfl, rfl, rfl, rfl, rfl, trivial⟩ ⟨rfl, rfl, rfl, rfl, rfl, rfl, rfl, rfl, rfl, rfl, rfl, trivial⟩)
        · rintro ⟨⟨g3, g4, g5, o2, n2⟩, w3, w4, w5, hvis⟩
          dsimp only at w3 w4 w5 hvis ⊢
          refine nav ?_
          (refine aC_region ?_
            <;> refine xL 115 q_move ?_
            <;> refine xL 116 q_move ?_
            <;> refine xL 117 q_move ?_
            <;> refine xL 118 (q_idxoN 54 tSl22_LfP) ?_
            <;> refine s_st 54 tNa3_LfP tSz3_LfP ?_
            <;> refine aL_end (nav ?_) <;> try dsimp only)
          (refine aC_region ?_
            <;> refine xL 119 q_add ?_
            <;> refine xL 57 q_move ?_
            <;> refine aL_end (nav ?_) <;> try dsimp only)
          rw [show s * 1 = r.length * 1 by omega, rowAt_set _ (by omega)]
          refine aN_again (
            ⟨(s + 1, g3, g4, g5, o2, r ++ [n2]), Srch.row_snoc hW hvis, (by dsimp only; omega), w3, w4, w5⟩
            ) (by dsimp only; omega) ⟨rfl, rfl, rfl, rfl, rfl, rfl, rfl, rfl, rfl, rfl, rfl, rfl, rfl, rfl, rfl, rfl, trivial⟩ ⟨rfl, rfl, rfl, rfl, rfl, rfl, rfl, rfl, rfl, rfl, rfl, trivial⟩)
     · first
       | exact Bool.noConfusion hb58
       | (
        have hse : s = A.syms.toNat := by omega
        subst hse
        have hU2 := Srch.upto_snoc hU hx hW
        have htk : o'.take (i + 1) = (o.take i) ++ [x] := by
          rw [take_snoc hx']
          obtain ⟨e, rfl⟩ := hpr
          rw [List.take_append_of_le_length hi]
        have f1 : ((List.range A.n.toNat).map fun s => pBool (finB A (s : Nat)))[x.1.1 * 1]? = some (pBool (finB A (x.1.1 : Nat))) := by rw [Nat.mul_one, range_at hx1]
        have f2 : ((List.range B.n.toNat).map fun s => pBool (finB B (s : Nat)))[x.1.2 * 1]? = some (pBool (finB B (x.1.2 : Nat))) := by rw [Nat.mul_one, range_at hx2]
        refine nav ?_
        refine aC_ent (En.freeze (l := 54) (t := 16) rfl rfl) fun _ => ?_
        rw [share_row _ _ _ hrl]
        (refine aC_draw (fun i => ([29, 30, 31, 32] : List Nat).elem i) [10] (by kernel_rfl) ?_
          <;> refine xDT 0 120 rfl (q_fldo 10 tFl95_0_LfP) ?_
          <;> refine xDT 1 121 rfl (q_fldo 10 tFl93_1_LfP) ?_
          <;> (refine yDT 2 122 rfl (q_ldo 10 tNa28_LfP) fun v122 hv122 => ?_; cases hv122)
          <;> refine xDT 3 123 rfl q_move ?_
          <;> refine xDT 6 126 rfl (q_fldo 10 tFl95_0_LfP) ?_
          <;> refine xDT 7 127 rfl (q_fldo 10 tFl93_2_LfP) ?_
          <;> (refine yDT 8 128 rfl (q_ldo 10 tNa66_LfP) fun v128 hv128 => ?_; cases hv128)
          <;> refine xDT 9 129 rfl q_move ?_
          <;> refine xDT 10 130 rfl q_move ?_
          <;> refine xDT 11 131 rfl q_nilp ?_
          <;> refine xDT 12 132 rfl (q_fld tFl125_2_LfP) ?_
          <;> (refine yDT 13 133 rfl (q_ld tNa66_LfP) fun v133 hv133 => ?_; cases hv133)
          <;> refine xDT 14 134 rfl q_move ?_
          <;> refine xDT 15 135 rfl (q_idxN tSl66_LfP) ?_
          <;> (refine yDT 16 136 rfl (q_ld tNa4_LfP) fun v136 hv136 => ?_; cases hv136)
          <;> refine xDT 17 137 rfl q_move ?_
          <;> refine xDT 18 138 rfl q_nilp ?_
          <;> refine xDT 19 139 rfl (q_fld tFl125_2_LfP) ?_
          <;> (refine yDT 20 140 rfl (q_ld tNa66_LfP) fun v140 hv140 => ?_; cases hv140)
          <;> refine xDT 21 141 rfl q_move ?_
          <;> refine xDT 22 142 rfl (q_idxN tSl66_LfP) ?_
          <;> (refine yDT 23 143 rfl (q_ld tNa4_LfP) fun v143 hv143 => ?_; cases hv143)
          <;> (refine aD_one 4 (by kernel_rfl) ?_)
          <;> (refine aW_run rfl fun w9 M9 N9 DQ back => ?_)
          <;> refine s_lit1 (kk := 1) 124 tEl28_LfP fun h124 ho124 => ?_
          <;> refine aL_end (back _ (nrm ?_))
          <;> (refine aD_one 5 (by kernel_rfl) ?_)
          <;> (refine aW_run rfl fun w9 M9 N9 DQ back => ?_)
          <;> (refine s_app 301 124 125 tEl28_LfP fun h125 ho125 => ?_; have q125 : En.one (PV.val h125) = true := ho125)
          <;> refine aL_end (back _ (nrm ?_))
          <;> refine xDT 27 147 rfl (q_fldo 10 tFl95_0_LfP) ?_
          <;> refine xDT 28 148 rfl (q_fldo 10 tFl93_1_LfP) ?_
          <;> (refine aD_one 24 (by kernel_rfl) ?_)
          <;> (refine aW_call (d := 144) rfl (cA Tryz.call120 (aDecides_e op (finB A (x.1.1 : Nat)) (finB B (x.1.2 : Nat)))) fun v144 hv144 => ?_; cases hv144)
          <;> (refine aD_one 25 (by kernel_rfl) ?_)
          <;> (refine aW_run rfl fun w9 M9 N9 DQ back => ?_)
          <;> refine s_lit1 (kk := 1) 145 tEl66_LfP fun h145 ho145 => ?_
          <;> refine aL_end (back _ (nrm ?_))
          <;> (refine aD_one 26 (by kernel_rfl) ?_)
          <;> (refine aW_run rfl fun w9 M9 N9 DQ back => ?_)
          <;> (refine s_app 302 145 146 tEl66_LfP fun h146 ho146 => ?_; have q146 : En.one (PV.val h146) = true := ho146)
          <;> refine aL_end (back _ (nrm ?_))
          <;> (refine aD_one 29 (by kernel_rfl) ?_)
          <;> (refine aW_thenZ rfl rfl fun DQ back => ?_)
          <;> refine s_st 10 tNa28_LfP tSz28_LfP ?_
          <;> refine aL_end (back _ ?_)
          <;> (refine aDZ_one 30 (by kernel_rfl) rfl rfl fun DQ back => ?_)
          <;> refine xL 149 (q_fldo 10 tFl95_0_LfP) ?_
          <;> refine aL_end (back _ ?_)
          <;> (refine aDZ_one 31 (by kernel_rfl) rfl rfl fun DQ back => ?_)
          <;> refine xL 150 (q_fldo 10 tFl93_2_LfP) ?_
          <;> refine aL_end (back _ ?_)
          <;> (refine aDZ_one 32 (by kernel_rfl) rfl rfl fun DQ back => ?_)
          <;> refine s_st 10 tNa66_LfP tSz66_LfP ?_
          <;> refine aL_end (back _ ?_)
          <;> refine aDZ_end (by kernel_rfl) (nav ?_)
          <;> try dsimp only)
        refine aC_ent (relabel (l := 125) 301 rfl rfl) fun _ => ?_
        refine aC_ent (relabel (l := 146) 302 rfl rfl) fun _ => ?_
        refine aC_ent (recast (l := 301) rfl (snoc_nats _ rows r)) fun _ => ?_
        refine aC_ent (recast (l := 302) rfl (snoc_bools _ ((o.take i).map (prodF A B op)) (prodF A B op x))) fun _ => ?_
        rw [show ((o.take i).map (prodF A B op)) ++ [prodF A B op x] = (o'.take (i + 1)).map (prodF A B op) by rw [htk, List.map_append]; rfl]
        (refine aC_region ?_
          <;> refine xL 40 q_move ?_
          <;> refine xL 41 q_add ?_
          <;> refine xL 13 q_assign ?_
          <;> refine aL_end (nav ?_) <;> try dsimp only)
        refine aN_again (
          ⟨(i + 1, h125, h146, r3', r4', r5', o', rows ++ [r]), hU2, (by dsimp only; omega), ho125, ho146, hr3', hr4', hr5'⟩
          ) (by dsimp only; omega) ⟨rfl, rfl, rfl, rfl, rfl, rfl, rfl, rfl, rfl, rfl, rfl, trivial⟩ ⟨rfl, rfl, rfl, rfl, rfl, rfl, rfl, rfl, rfl, rfl, trivial⟩))
  · first
    | exact Bool.noConfusion hb39
    | (
     have hio : i = o.length := by omega
     subst hio
     refine nav ?_
     refine aC_ent (freezeCell (l := 10) (l' := 301) (j := 1) rfl rfl rfl rfl) fun _ => ?_
     refine aC_ent (freezeCell (l := 10) (l' := 302) (j := 2) rfl rfl rfl rfl) fun _ => ?_
     refine aC_ent (freezeCell (l := 10) (l' := 303) (j := 3) rfl rfl rfl rfl) fun _ => ?_
     refine aC_ent (freezeCell (l := 10) (l' := 304) (j := 4) rfl rfl rfl rfl) fun _ => ?_
     rw [share_natss _ _ _ rfl, share_boolss _ _ _ rfl, share_ints _ _ _ rfl, share_ints _ _ _ rfl]
     (refine aC_region ?_
       <;> (refine yL 151 (q_ldao 10 tAgg95_LfP) fun v151 hv151 => ?_; cases hv151)
       <;> refine s_sta 6 tAgg95_LfP ?_
       <;> refine xL 7 q_assign ?_
       <;> refine aL_end (nav ?_) <;> try dsimp only)
     refine ret_cs (k := 5) 6 (by kernel_rfl) (Tryz.results104) rfl rfl rfl (Nat.le_of_ble_eq_true rfl) (by decide) rfl (.inl ⟨(o, rows), Srch.all_some hU (Nat.le_refl _) (show o.length ≤ (prodW A B).cap from hcap), ?_⟩)
     unfold pPairs
     dsimp only
     rw [List.take_length, hsN]; rfl)
end Go.Proofs.YtgigclnaicbiaaaGreatDoor

namespace Go.Proofs.YtgigclnaicbiaaaGreatDoor
open Go.RowKit Go.Cb Go.En
set_option linter.all false

section
variable {α κ : Type} [DecidableEq κ] {W : Srch α κ}
def Srch.Born (W : Srch α κ) (o : List α) : Prop := ∀ j x, 0 < j → o[j]? = some x → ∃ i y s, i < j ∧ o[i]? = some y ∧ s < W.m ∧ x = W.step i y s
theorem Srch.Born.visit {o o' : List α} {i s n : Nat} {y : α} (h : W.Born o) (hy : o[i]? = some y) (hs : s < W.m) (hv : visit W.key W.cap o (W.step i y s) = some (o', n)) : W.Born o' := by
  unfold Go.Proofs.YtgigclnaicbiaaaGreatDoor.visit at hv
  split at hv
  · cases hv; exact h
  · split at hv
    · cases hv
    · cases hv
      intro j x hj hx
      rw [List.getElem?_append] at hx
      split at hx
      · obtain ⟨i', y', s', h1, h2, h3, h4⟩ := h j x hj hx
        exact ⟨i', y', s', h1, preG_get (List.prefix_append ..) h2, h3, h4⟩
      · rename_i hjl
        have h1 := lt_of_get hx
        rw [List.length_singleton] at h1
        rw [show j - o.length = 0 by omega, List.getElem?_cons_zero] at hx
        cases hx
        exact ⟨i, y, s, by have := lt_of_get hy; omega, preG_get (List.prefix_append ..) hy, hs, rfl⟩
theorem Srch.Born.row {o : List α} {i : Nat} {y : α} (h : W.Born o) (hy : o[i]? = some y) : ∀ {s : Nat} {o' : List α} {r : List Nat}, s ≤ W.m → W.row i y o s = some (o', r) → W.Born o' ∧ o <+: o'
  | 0, o', r, _, hr => by
    rw [Srch.row] at hr; cases hr
    exact ⟨h, List.prefix_refl _⟩
  | s + 1, o', r, hs, hr => by
    rw [Srch.row, Option.bind_eq_some_iff] at hr
    obtain ⟨⟨o1, r1⟩, h1, h2⟩ := hr
    obtain ⟨⟨o2, n⟩, h3, h4⟩ := Option.map_eq_some_iff.1 h2
    cases h4
    obtain ⟨h5, h6⟩ := Srch.Born.row h hy (by omega) h1
    exact ⟨h5.visit (preG_get h6 hy) (by omega) h3, h6.trans (visit_pre h3).1⟩
theorem Srch.born {x0 : α} : ∀ {i : Nat} {o : List α} {rows : List (List Nat)}, W.upto x0 i = some (o, rows) → W.Born o
  | 0, o, rows, h => by
    rw [Srch.upto] at h; cases h
    intro j x hj hx
    have := lt_of_get hx
    rw [List.length_singleton] at this; omega
  | i + 1, o, rows, h => by
    rw [Srch.upto, Option.bind_eq_some_iff] at h
    obtain ⟨⟨o1, rows1⟩, h1, h2⟩ := h
    have h3 := Srch.born h1
    dsimp only at h2
    cases hx : o1[i]? with
    | none => rw [hx] at h2; cases h2; exact h3
    | some x =>
      rw [hx] at h2
      obtain ⟨⟨o2, r⟩, h5, h6⟩ := Option.map_eq_some_iff.1 h2
      cases h6
      exact (h3.row hx (Nat.le_refl _) h5).1
end
def Back (par : List (Int × Int)) : Prop := ∀ (j : Nat) (x : Int × Int), par[j]? = some x → x.1 < (j : Int)
theorem pathP_fuel {par : List (Int × Int)} (h : Back par) : ∀ (f g i : Nat), i < f → i < g → pathP par f i = pathP par g i
  | 0, _, _, h1, _ => by omega
  | f + 1, 0, _, _, h2 => by omega
  | f + 1, g + 1, i, h1, h2 => by
    rw [pathP, pathP]
    cases hx : par[i]? with
    | none => rfl
    | some x =>
      dsimp only
      have := h i x hx
      by_cases h0 : x.1 < 0
      · rw [if_pos h0, if_pos h0]
      · rw [if_neg h0, if_neg h0, pathP_fuel h f g x.1.toNat (by omega) (by omega)]
def wayP (par : List (Int × Int)) (i : Nat) : List Int := pathP par (i + 1) i
theorem wayP_end {par : List (Int × Int)} {i : Nat} {x : Int × Int} (hx : par[i]? = some x) (h0 : x.1 < 0) : wayP par i = [] := by
  unfold wayP; rw [pathP, hx]; dsimp only; rw [if_pos h0]
theorem wayP_on {par : List (Int × Int)} (h : Back par) {i : Nat} {x : Int × Int} (hx : par[i]? = some x) (h0 : ¬ x.1 < 0) : wayP par i = wayP par x.1.toNat ++ [x.2] := by
  unfold wayP; rw [pathP, hx]; dsimp only; rw [if_neg h0, pathP_fuel h i (x.1.toNat + 1) x.1.toNat (by have := h i x hx; omega) (by omega)]
theorem prod_back {A B : Aut} {i : Nat} {o : List ((Nat × Nat) × (Int × Int))} {rows : List (List Nat)} (hu : (prodW A B).upto ((0, 0), (-1, -1)) i = some (o, rows)) (h0 : o[0]? = some ((0, 0), (-1, -1))) : Back (o.map (·.2)) := fun j x hx => by
  rw [List.getElem?_map] at hx
  obtain ⟨y, hy, rfl⟩ := Option.map_eq_some_iff.1 hx
  rcases Nat.eq_zero_or_pos j with rfl | hj
  · rw [h0] at hy; cases hy; decide
  · obtain ⟨i', y', s, h1, _, _, rfl⟩ := Srch.born hu j y hj hy
    show ((i' : Nat) : Int) < _
    omega
theorem idxB (l : List Bool) : idx (fun x => x == true) l = match l.idxOf? true with | some i => (i : Int) | none => -1 := rfl
end Go.Proofs.YtgigclnaicbiaaaGreatDoor

namespace Go.En
open Go.RowKit Go.Cb Go.Proofs Go.Sort
set_option linter.all false
def RevI (P : Program) (fs : Nat) : Prop := ∀ (blk cap : Nat) (zs : List Int) (w : World), Go.Sort.Holds (Value.int .i64) w blk 0 zs.toArray → blk < w.heap.size → zs.length < 4611686018427387904 →
  Calls P fs #[.slice (some ⟨blk, 0, none⟩) zs.length cap] w fun e w' => e = .returned (.tuple #[]) ∧ ∃ n os, w' = grow (putRow (Value.int .i64) (Go.Sort.ahead w n) blk 0 zs.reverse.toArray) os
section
variable {P : Program} {c : Ctx} {ops : Array Oper} {Q : Exit → Act → World → Prop} {rest : List Oper} {sL hP : List (Nat × Ent)} {o : Oper}
theorem s_revI {fs e d : Nat} {zs : List Int} {h : Value} {q : PV} {x : Operand} {ats : Array TypeId} (l : Nat) (hS : RevI P fs) (hc : ∀ args w, (callFunc fs args).run P w = .ok (.enter fs args) w)
    (kk : aL P c ops Q rest ⟨put d (.tuple #[], .val (.tuple #[])) sL, put l (h, .own e 1 zs.length (zs.reverse.map pInt)) hP⟩)
    (hn : 0 < zs.length) (hn2 : zs.length < 4611686018427387904 := by omega) (hw : wants ops sL o = some true := by exact rfl) (hd : o.dst = some d := by exact rfl) (hdn : d < c.nt := by exact Nat.le_of_ble_eq_true rfl) (ho : o.op = .call { callee := .value (.func fs), args := #[x], argTypes := ats } := by exact rfl) (hx : ev sL x = some (h, q) := by exact rfl) (hl : lk hP l = some (h, .own e 1 zs.length (zs.map pInt)) := by exact rfl) : aL P c ops Q (o :: rest) (⟨sL, hP⟩ : St) :=
  aL_run hw fun a w F H => by
    have hxv := (H.rd.ev hx).1
    have hTr := H.tr l _ _ hl
    obtain ⟨xs, Fs, hrow, hlen, hT, hdj, hb, hF⟩ := hTr.row
    obtain ⟨blk, cap, hh, hc1, hc2, hc3⟩ := own_hdr hTr hn
    have hblkF : F l blk := (hF blk).2 (.inl (by rw [hh]; rfl))
    have hxs : ∀ (j : Nat) (v : Value), xs[j]? = some v → ∃ z, zs[j]? = some z ∧ v = .int .i64 z := fun j v hv => by
      obtain ⟨p, hp⟩ := get_of_len hv hlen.symm
      have h1 := hp
      rw [List.getElem?_map, Option.map_eq_some_iff] at h1
      obtain ⟨z, hz, rfl⟩ := h1
      exact ⟨z, hz, ((hT j v _ hv hp).sh rfl).vOf⟩
    have hHold : Go.Sort.Holds (Value.int .i64) w blk 0 zs.toArray := fun j hj => by
      simp only [List.size_toArray] at hj
      have hrow' := hrow
      rw [hh] at hrow'
      obtain ⟨v, hv⟩ := get_of_lt (show j < xs.length by rw [← hlen, List.length_map]; exact hj)
      obtain ⟨z, hz, rfl⟩ := hxs j v hv
      refine ⟨?_, by rw [Nat.zero_add]; exact hrow'.frozenAt j⟩
      rw [Nat.zero_add, row_cell hrow' hv]
      have : zs.toArray[j]! = z := by
        have hz' := (List.getElem?_eq_some_iff.1 hz).2
        simp [hj, hz']
      rw [this]
    have hcall := hS blk cap zs w hHold hc3 hn2
    unfold Oper.wp
    have hrun : (execOp a.eval o).run P w = .ok (.enter fs #[h]) w := by
      have hev : a.eval (.func fs) = .func (.func fs) #[] #[] := rfl
      simp [execOp, ho, resolve, Deferred.ofValue, hev, invoke, hxv, hc]
    rw [hrun, Oper.upon_enter, hh]
    refine hcall.mono fun e' w' ⟨he', m, os, hw'⟩ => ?_
    subst he'
    have hsl : zs.reverse.length = zs.length := List.length_reverse
    generalize hsd : zs.reverse = sd at hsl hw' kk
    have hch0 : Chg (fun b => b = blk) w w' := by
      rw [hw']
      refine ⟨rfl, rfl, rfl, ?_, fun i hi hne => ?_⟩
      · simp [grow, putRow, mapBlock, Go.Sort.ahead]
      · have : (grow (putRow (Value.int .i64) (Go.Sort.ahead w m) blk 0 sd.toArray) os).heap = (w.heap.modify blk (onCells (putCells (Value.int .i64) 0 sd.toArray))) ++ os := rfl
        rw [this, Array.getElem?_append_left (by simpa using hi), Array.getElem?_modify, if_neg (fun e => hne e.symm)]
    rw [hd]
    refine kk _ _ ⟨fun l' => if l' = l then (fun b => b = blk) else F l', ?_⟩
    refine H.change (fun l' => l' = l) hdn (hch0.wid fun b hb' => .inl ⟨l, _, rfl, hl, by rw [hb']; exact hblkF⟩) (fun l' z hne hz => ?_) (fun l' z b hT' hz hb' => ?_) (fun hmm l' u p hT' hz => ?_) (fun l1 l2 _ _ _ h1 h2 hne => absurd (h1.trans h2.symm) hne) (fun _ => .val _) (fun _ => by rw [hw']; exact Nat.le_add_right _ _)
    · rcases lk_put hz with ⟨e1, _⟩ | ⟨_, e1⟩
      · exact absurd e1.symm hne
      · exact ⟨e1, by simp [hne]⟩
    · subst hT'
      simp only [if_true] at hb'
      exact .inl ⟨l', _, rfl, hl, by rw [hb']; exact hblkF⟩
    · subst hT'
      rw [lk_put_self] at hz
      cases hz
      simp only [if_true]
      rcases hrow.2 with ⟨e1, _⟩ | ⟨g', cap', cur, e1, _, e3, e4, e5, e6, e7⟩
      · rw [hh] at e1; cases e1
      · rw [hh] at e1
        cases e1
        have hlt := blk_lt e3
        refine .own (sd.map (Value.int .i64)) (fun _ _ => False) ⟨by rw [List.length_map, hsl, Nat.mul_one], .inr ⟨blk, cap, putCells (Value.int .i64) 0 sd.toArray cur, hh, Nat.zero_le _, ?_, e4, e5, by simp [putCells]; omega, ?_⟩⟩ (by simp) (fun t v p hv hp => ?_) (fun _ _ _ _ _ _ h => h.elim) (fun _ _ _ h => h.elim) (fun b => by rw [hh]; simp [Value.ownBlock, eq_comm])
        · rw [hw']
          have : (grow (putRow (Value.int .i64) (Go.Sort.ahead w m) blk 0 sd.toArray) os).heap = (w.heap.modify blk (onCells (putCells (Value.int .i64) 0 sd.toArray))) ++ os := rfl
          rw [this, Array.getElem?_append_left (by simpa using hlt), Array.getElem?_modify, if_pos rfl, e3]
          rfl
        · have := put_takeI (Value.int .i64) sd.toArray cur (by simp only [List.size_toArray]; rw [hsl, e6]; omega)
          simp only [List.size_toArray] at this
          rw [Nat.mul_one, ← hsl]; exact this
        · rw [List.getElem?_map, Option.map_eq_some_iff] at hv hp
          obtain ⟨z, hz, rfl⟩ := hv
          obtain ⟨z', hz', rfl⟩ := hp
          rw [hz] at hz'; cases hz'
          exact .shr (.val _) (fun _ h => h)
end
section
variable {P : Program} {sL hP : List (Nat × Ent)} {o : Oper}
theorem q_build0 {t : Nat} {z : Value} {zs : List Value} {pl : List (Nat × Nat)} (hT : stInfo P t = some (z, pl)) (hzs : z.cells = zs.toArray) (ho : o.op = .build t #[] := by exact rfl) : YE P (⟨sL, hP⟩ : St) o (· = .agg zs.toArray) (.agg (zs.map .val)) :=
  .exact fun M F a w H => by
    refine ⟨.agg _ _ (by simp) fun i v q hv hq => ?_, ?_⟩
    · rw [List.getElem?_map, hv] at hq
      cases hq
      exact .val _
    have hb : P.built t [] = some zs.toArray := by
      unfold stInfo at hT
      split at hT
      · rename_i i fs hi hf
        split at hT
        · rename_i z' pl hz hpl
          cases hT
          unfold Program.built
          simp only [hi, hf, hz, hpl, hzs]
          rfl
        · cases hT
      · cases hT
    have := run_build (P := P) w t #[] _ hb
    simp [execOp, ho, this]
end
end Go.En

namespace Go.Proofs.YtgigclnaicbiaaaGreatDoor
open Go.RowKit Go.Cb Go.En
set_option linter.all false
set_option maxRecDepth 100000

theorem tEl22_LfQ : ElT Tryz.prog 22 3 1 8 (.int .i64 0) := ⟨Tryz.underlying22, by kernel_rfl, rfl, by decide⟩
theorem tFl93_2_LfQ : FldT Tryz.prog 93 2 2 = true := by kernel_rfl
theorem tFl95_0_LfQ : FldT Tryz.prog 95 0 0 = true := by kernel_rfl
theorem tFl95_1_LfQ : FldT Tryz.prog 95 1 3 = true := by kernel_rfl
theorem tFl95_2_LfQ : FldT Tryz.prog 95 2 4 = true := by kernel_rfl
theorem tNa22_LfQ : NoAgg Tryz.prog 22 = true := by kernel_rfl
theorem tNa3_LfQ : NoAgg Tryz.prog 3 = true := by kernel_rfl
theorem tNa4_LfQ : NoAgg Tryz.prog 4 = true := by kernel_rfl
theorem tNa66_LfQ : NoAgg Tryz.prog 66 = true := by kernel_rfl
theorem tSl22_LfQ : SlT Tryz.prog 22 3 1 = true := by kernel_rfl
theorem tSl66_LfQ : SlT Tryz.prog 66 4 1 = true := by kernel_rfl

theorem sIndexBool_e (l : List Bool) : AF Tryz.prog 123 [.sl l.length (l.map pBool), pBool true] (· = pInt (idx (fun x => x == true) l)) := by
  refine AF.of_body 19 Tryz.func123 rfl Tryz.ntmps123 (Nat.le_of_ble_eq_true rfl) ?_
  intro w0 M0 vs hl hv
  obtain ⟨v0, v1, rfl⟩ := len2 hl
  obtain rfl := hv 1 _ _ rfl rfl
  clear hl hv
  refine aC_slen 0 rfl fun hlen => ?_
  refine nav ?_
  (refine aC_region ?_
    <;> refine xL 4 q_assign ?_
    <;> refine aL_end (nav ?_) <;> try dsimp only)
  (refine aC_region ?_
    <;> refine xL 6 q_move ?_
    <;> refine xL 7 (q_len tSl66_LfQ) ?_
    <;> refine xL 8 q_move ?_
    <;> refine aL_end (nav ?_) <;> try dsimp only)
  refine aC_loop (ι := { k : Nat // k ≤ l.length ∧ ∀ i y, i < k → l[i]? = some y → (y == true) = false }) (fun k => ⟨[(0, _, _), (1, _, _), (7, _, _), (8, .int .i64 k.1, pInt k.1)], []⟩) (fun k => l.length - k.1) ⟨0, by omega, by omega⟩ (fun a w H => H.weaken ⟨rfl, rfl, rfl, rfl, trivial⟩ trivial) ?_
  rintro ⟨k, hk, hp⟩
  dsimp only
  refine nav ?_
  (refine aC_region ?_
    <;> refine xL 9 q_lss ?_
    <;> refine aL_end (nav ?_) <;> try dsimp only)
  first | refine cCd (fun hb9 => ?_) (fun hb9 => ?_) | refine cC (fun hb9 => ?_) (fun hb9 => ?_)
  · first
    | exact Bool.noConfusion hb9
    | (
     obtain ⟨x, hx⟩ := get_some (show k < l.length by omega)
     have e1 := map_at (f := pBool) hx
     refine nav ?_
     (refine aC_region ?_
       <;> refine xL 10 q_move ?_
       <;> refine xL 5 q_assign ?_
       <;> refine aL_end (nav ?_) <;> try dsimp only)
     (refine aC_region ?_
       <;> refine xL 11 q_move ?_
       <;> refine xL 12 q_move ?_
       <;> refine xL 13 q_move ?_
       <;> refine xL 14 (q_idxN tSl66_LfQ) ?_
       <;> (refine yL 15 (q_ld tNa4_LfQ) fun v15 hv15 => ?_; cases hv15)
       <;> refine xL 16 (q_beql Tryz.underlying4) ?_
       <;> refine aL_end (nav ?_) <;> try dsimp only)
     first | refine cCd (fun hb16 => ?_) (fun hb16 => ?_) | refine cC (fun hb16 => ?_) (fun hb16 => ?_)
     · first
       | exact Bool.noConfusion hb16
       | (
        have hx1 : (x == true) = true := by cases x <;> simp_all
        refine nav ?_
        (refine aC_region ?_
          <;> refine xL 17 q_move ?_
          <;> refine xL 4 q_assign ?_
          <;> refine aL_end (nav ?_) <;> try dsimp only)
        refine ret_shr (Tryz.results123) rfl ?_
        rw [idx_here hp hx hx1])
     · first
       | exact Bool.noConfusion hb16
       | (
        have hx1 : (x == true) = false := by cases x <;> simp_all
        refine nav ?_
        (refine aC_region ?_
          <;> refine xL 18 q_add ?_
          <;> refine xL 8 q_move ?_
          <;> refine aL_end (nav ?_) <;> try dsimp only)
        refine aN_again (
          ⟨k + 1, by omega, fun i y hi hy => by
            by_cases e : i = k
            · subst e; rw [hx] at hy; cases hy; exact hx1
            · exact hp i y (by omega) hy⟩
          ) (by dsimp only; omega) ⟨rfl, rfl, rfl, rfl, trivial⟩ trivial))
  · first
    | exact Bool.noConfusion hb9
    | (
     refine nav ?_
     (refine aC_region ?_
       <;> refine xL 4 q_assign ?_
       <;> refine aL_end (nav ?_) <;> try dsimp only)
     refine ret_shr (Tryz.results123) rfl ?_
     rw [idx_none fun i y hi hy => hp i y (by omega) hy])
theorem revI : RevI Tryz.prog 52 := fun blk cap zs w hH _ hsz => (Tryz.slices_Reverse_int blk 0 cap zs w hH (by omega)).mono fun e w' ⟨h1, n, h2⟩ => ⟨h1, n, #[], by rw [h2]; simp [Go.Sort.grow]; rfl⟩
theorem revI0 : SortI0 Tryz.prog 52 := fun p cap w => Tryz.slices_Reverse_int_empty p cap w
theorem cmpR_no {A B : Aut} {op : Int} {q : List PrS × List (List Nat)} (h : idx (fun x => x == true) (q.1.map (prodF A B op)) = -1) : cmpR A B op q = (true, []) := by
  rw [idxB] at h
  unfold cmpR
  cases h1 : (q.1.map (prodF A B op)).idxOf? true with
  | none => rfl
  | some i =>
    rw [h1] at h
    have h' : ((i : Nat) : Int) = -1 := h
    omega
theorem cmpR_yes {A B : Aut} {op : Int} {q : List PrS × List (List Nat)} {i : Nat} (h : idx (fun x => x == true) (q.1.map (prodF A B op)) = (i : Int)) : cmpR A B op q = (false, wayP (q.1.map (·.2)) i) := by
  rw [idxB] at h
  unfold cmpR
  cases h1 : (q.1.map (prodF A B op)).idxOf? true with
  | none =>
    rw [h1] at h
    have h' : (-1 : Int) = ((i : Nat) : Int) := h
    omega
  | some j =>
    rw [h1] at h
    dsimp only at h ⊢
    rw [show j = i by omega]; rfl
theorem idx_cases {A B : Aut} {op : Int} (o : List PrS) {v : Int} (h : idx (fun x => x == true) (o.map (prodF A B op)) = v) : v = -1 ∨ ∃ i : Nat, v = (i : Int) ∧ i < o.length := by
  rcases idx_nat (p := fun x => x == true) (l := o.map (prodF A B op)) with ⟨h1, _⟩ | ⟨i, x, h1, h2, _⟩
  · exact .inl (by rw [← h, h1])
  · exact .inr ⟨i, by rw [← h, h1], by have := lt_of_get h2; rwa [List.length_map] at this⟩
theorem aFirst_e (A B : Aut) (op : Int) (o : List PrS) (rows : List (List Nat)) (hu : (prodW A B).upto ((0, 0), (-1, -1)) 2000 = some (o, rows)) (h0 : o[0]? = some ((0, 0), (-1, -1))) (hcap : o.length ≤ 2000) : AF Tryz.prog 115 [pPairs A B op (o, rows)] (· = .tup [pInts (cmpR A B op (o, rows)).2, pBool (!(cmpR A B op (o, rows)).1)]) := by
  obtain ⟨v, hv⟩ : ∃ v, idx (fun x => x == true) (o.map (prodF A B op)) = v := ⟨_, rfl⟩
  have hix := sIndexBool_e (o.map (prodF A B op))
  rw [hv] at hix
  have hvc := idx_cases o hv
  have hbk := prod_back hu h0
  refine AF.of_body 34 Tryz.func115 rfl Tryz.ntmps115 (Nat.le_of_ble_eq_true rfl) ?_
  intro w0 M0 vs hl hv
  obtain ⟨v0, rfl⟩ := len1 hl
  clear hl hv
  refine nav ?_
  (refine aC_region ?_
    <;> refine s_boxa 1 5 fun h1 => ?_
    <;> refine xL 2 q_assign ?_
    <;> refine xL 3 q_assign ?_
    <;> refine aL_end (nav ?_) <;> try dsimp only)
  (refine aC_region ?_
    <;> refine xL 6 (q_fldo 1 tFl95_0_LfQ) ?_
    <;> refine xL 7 (q_fldo 1 tFl93_2_LfQ) ?_
    <;> (refine yL 8 (q_ldo 1 tNa66_LfQ) fun v8 hv8 => ?_; cases hv8)
    <;> (refine cS 9 (cA Tryz.call123 (hix)) fun v9 hv9 => ?_; cases hv9)
    <;> refine xL 4 q_assign ?_
    <;> refine aL_end (nav ?_) <;> try dsimp only)
  (refine aC_region ?_
    <;> refine xL 10 q_move ?_
    <;> refine xL 11 q_lss ?_
    <;> refine aL_end (nav ?_) <;> try dsimp only)
  first | refine cCd (fun hb11 => ?_) (fun hb11 => ?_) | refine cC (fun hb11 => ?_) (fun hb11 => ?_)
  · first
    | exact Bool.noConfusion hb11
    | (
     have hv1 : v = -1 := by omega
     subst hv1
     have hcr := cmpR_no (q := (o, rows)) hv
     refine nav ?_
     (refine aC_region ?_
       <;> refine xL 2 q_assign ?_
       <;> refine xL 3 q_assign ?_
       <;> refine aL_end (nav ?_) <;> try dsimp only)
     refine aR_ent (nilSlD (t := 2) rfl) fun _ => ?_
     refine ret_ss (Tryz.results115) rfl rfl ?_
     rw [hcr]; rfl)
  · first
    | exact Bool.noConfusion hb11
    | (
     obtain ⟨i0, rfl, hi0⟩ : ∃ i : Nat, v = (i : Int) ∧ i < o.length := by
       rcases hvc with h | h
       · omega
       · exact h
     have hcr := cmpR_yes (q := (o, rows)) hv
     dsimp only at hcr
     refine nav ?_
     (refine aC_region ?_
       <;> refine xL 5 q_assign ?_
       <;> refine aL_end (nav ?_) <;> try dsimp only)
     refine aC_ent (nilOwn 200 3 1 rfl) fun _ => ?_
     refine aC_loop (ι := { k : Nat × List Int × Value // wayP (o.map (·.2)) i0 = wayP (o.map (·.2)) k.1 ++ k.2.1.reverse ∧ k.1 < o.length ∧ k.2.1.length + k.1 ≤ i0 ∧ k.2.2.oneCell' = true }) (fun k => ⟨[(1, _, _), (2, _, _), (3, _, _), (4, .int .i64 k.1.1, pInt k.1.1), (5, k.1.2.2, .val k.1.2.2)], [(1, _, _), (200, k.1.2.2, .own 3 1 k.1.2.1.length (k.1.2.1.map pInt))]⟩) (fun k => k.1.1) ⟨(i0, [], .slice none 0 0), by simp, hi0, by simp, rfl⟩ (fun a w H => H.weaken ⟨rfl, rfl, rfl, rfl, rfl, trivial⟩ ⟨rfl, rfl, trivial⟩) ?_
     rintro ⟨⟨cur, out, r⟩, hw, hc, hl, hr⟩
     dsimp only
     dsimp only at hw hc hl hr
     obtain ⟨⟨pq, f, s⟩, hx⟩ := get_some hc
     have hpf : (pFrom o).length = o.length := by unfold pFrom; rw [List.length_map]
     have hps : (pSym o).length = o.length := by unfold pSym; rw [List.length_map]
     have e1 : ((pFrom o).map pInt)[cur * 1]? = some (pInt f) := map_at (by unfold pFrom; rw [List.getElem?_map, hx]; rfl)
     have e2 : ((pSym o).map pInt)[cur * 1]? = some (pInt s) := map_at (by unfold pSym; rw [List.getElem?_map, hx]; rfl)
     have e3 : (o.map (·.2))[cur]? = some (f, s) := by rw [List.getElem?_map, hx]; rfl
     have hfc := hbk cur (f, s) e3
     refine nav ?_
     (refine aC_region ?_
       <;> refine xL 12 (q_fldo 1 tFl95_1_LfQ) ?_
       <;> (refine yL 13 (q_ldo 1 tNa22_LfQ) fun v13 hv13 => ?_; cases hv13)
       <;> refine xL 14 q_move ?_
       <;> refine xL 15 (q_idxN tSl22_LfQ) ?_
       <;> (refine yL 16 (q_ld tNa3_LfQ) fun v16 hv16 => ?_; cases hv16)
       <;> refine xL 17 q_geq ?_
       <;> refine aL_end (nav ?_) <;> try dsimp only)
     first | refine cCd (fun hb17 => ?_) (fun hb17 => ?_) | refine cC (fun hb17 => ?_) (fun hb17 => ?_)
     · first
       | exact Bool.noConfusion hb17
       | (
        obtain ⟨j, rfl⟩ : ∃ j : Nat, f = (j : Int) := ⟨f.toNat, by omega⟩
        dsimp only at hfc
        have hwn := wayP_on hbk e3 (by dsimp only; omega)
        dsimp only at hwn
        rw [Int.toNat_natCast] at hwn
        refine nav ?_
        (refine aC_region ?_
          <;> refine xL 23 q_move ?_
          <;> refine xL 24 (q_fldo 1 tFl95_2_LfQ) ?_
          <;> (refine yL 25 (q_ldo 1 tNa22_LfQ) fun v25 hv25 => ?_; cases hv25)
          <;> refine xL 26 q_move ?_
          <;> refine xL 27 (q_idxN tSl22_LfQ) ?_
          <;> (refine yL 28 (q_ld tNa3_LfQ) fun v28 hv28 => ?_; cases hv28)
          <;> refine s_lit1 (kk := 1) 29 tEl22_LfQ fun h29 ho29 => ?_
          <;> refine s_app 200 29 30 tEl22_LfQ fun h30 ho30 => ?_
          <;> refine xL 5 q_assign ?_
          <;> refine aL_end (nav ?_) <;> try dsimp only)
        refine aC_ent (relabel (l := 30) 200 rfl rfl) fun _ => ?_
        refine aC_ent (recast (l := 200) rfl (own_ints _ out s)) fun _ => ?_
        (refine aC_region ?_
          <;> refine xL 18 (q_fldo 1 tFl95_1_LfQ) ?_
          <;> (refine yL 19 (q_ldo 1 tNa22_LfQ) fun v19 hv19 => ?_; cases hv19)
          <;> refine xL 20 q_move ?_
          <;> refine xL 21 (q_idxN tSl22_LfQ) ?_
          <;> (refine yL 22 (q_ld tNa3_LfQ) fun v22 hv22 => ?_; cases hv22)
          <;> refine xL 4 q_assign ?_
          <;> refine aL_end (nav ?_) <;> try dsimp only)
        refine aN_again (
          ⟨(j, out ++ [s], h30), by dsimp only; rw [hw, hwn, List.reverse_append]; simp, by dsimp only; omega, by dsimp only; rw [List.length_append, List.length_singleton]; omega, ho30⟩
          ) (by dsimp only; omega) ⟨rfl, rfl, rfl, rfl, rfl, trivial⟩ ⟨rfl, rfl, trivial⟩)
     · first
       | exact Bool.noConfusion hb17
       | (
        have hwn := wayP_end e3 (by dsimp only; omega)
        rw [hwn, List.nil_append] at hw
        refine nav ?_
        (refine aC_region ?_
          <;> refine xL 31 q_move ?_
          <;> (rcases Nat.eq_zero_or_pos out.length with h0' | h0' <;> first | (refine aL_ent (recast (l := 200) (p' := .own 3 1 0 []) rfl (by rw [List.eq_nil_of_length_eq_zero h0']; rfl)) fun _ => ?_; refine s_sortI0 200 revI0 (Tryz.call52) ?_; refine aL_ent (recast (l := 200) (p' := .own 3 1 out.length (out.reverse.map pInt)) rfl (by rw [List.eq_nil_of_length_eq_zero h0']; rfl)) fun _ => ?_) | (refine s_revI 200 revI (Tryz.call52) ?_ h0'))
          <;> refine aL_end (nav ?_) <;> try dsimp only) <;> (
         refine aC_ent (En.freeze (l := 200) (t := 5) rfl rfl) fun _ => ?_
         rw [show share (PV.own 3 1 out.length (out.reverse.map pInt)) = pInts out.reverse by rw [← List.length_reverse]; exact share_ints _ _ _ rfl]
         (refine aC_region ?_
           <;> refine xL 33 q_move ?_
           <;> refine xL 2 q_assign ?_
           <;> refine xL 3 q_assign ?_
           <;> refine aL_end (nav ?_) <;> try dsimp only)
         refine ret_ss (Tryz.results115) rfl rfl ?_
         rw [hcr, hw]; rfl)))
end Go.Proofs.YtgigclnaicbiaaaGreatDoor

namespace Go.Proofs.YtgigclnaicbiaaaGreatDoor
open Go.RowKit Go.Cb Go.En
set_option linter.all false
set_option maxRecDepth 100000

theorem tAgg25_LfR : AggT Tryz.prog 25 5 = true := by kernel_rfl
theorem tAgg95_LfR : AggT Tryz.prog 95 5 = true := by kernel_rfl
theorem tFl25_1_LfR : FldT Tryz.prog 25 1 1 = true := by kernel_rfl
theorem tNa3_LfR : NoAgg Tryz.prog 3 = true := by kernel_rfl
theorem tZr25_LfR : ZeroT Tryz.prog 25 (.agg #[(.int .i64 0), (.int .i64 0), (.slice none 0 0), (.slice none 0 0), (.slice none 0 0)]) := by unfold ZeroT; kernel_rfl
theorem tZr95_LfR : ZeroT Tryz.prog 95 (.agg #[(.int .i64 0), (.slice none 0 0), (.slice none 0 0), (.slice none 0 0), (.slice none 0 0)]) := by unfold ZeroT; kernel_rfl

theorem fit_no1 {a b : Aut} (h : autOk a = false) : fitX a b = 1 := by unfold fitX; rw [if_pos (.inl h)]
theorem fit_no2 {a b : Aut} (h : autOk b = false) : fitX a b = 1 := by unfold fitX; rw [if_pos (.inr h)]
theorem fit_ne {a b : Aut} (h1 : autOk a = true) (h2 : autOk b = true) (h : ¬ a.syms = b.syms) : fitX a b = 29 := by unfold fitX; rw [if_neg (by rw [h1, h2]; simp), if_pos h]
theorem fit_ok {a b : Aut} (h1 : autOk a = true) (h2 : autOk b = true) (h : a.syms = b.syms) : fitX a b = 0 := by unfold fitX; rw [if_neg (by rw [h1, h2]; simp), if_neg (fun e => e h)]
theorem fit_zero {a b : Aut} (h : fitX a b = 0) : autOk a = true ∧ autOk b = true ∧ a.syms = b.syms := by
  unfold fitX at h
  split at h
  · omega
  · rename_i h1
    split at h
    · omega
    · rename_i h2
      refine ⟨?_, ?_, ?_⟩
      · cases e : autOk a with
        | true => rfl
        | false => exact absurd (.inl e) h1
      · cases e : autOk b with
        | true => rfl
        | false => exact absurd (.inr e) h1
      · exact Decidable.not_not.1 h2
def pPZ : PV := .agg [pInt 0, .val (.slice none 0 0), .val (.slice none 0 0), .val (.slice none 0 0), .val (.slice none 0 0)]
def resB (a b : Aut) (op : Int) : PV := match bothX a b with
  | .ok (A, B, q) => .tup [pPairs A B op q, pInt 0]
  | .error e => .tup [pPZ, pInt e]
theorem aFit_ff (a b : Aut) (ha : autOk a = false) (hb : autOk b = false) (hs : True) : AF Tryz.prog 70 [pAut a, pAut b] (· = pInt 1) := by
  have hva := aValid_e a
  have hvb := aValid_e b
  rw [ha] at hva
  rw [hb] at hvb
  refine AF.of_body 20 Tryz.func70 rfl Tryz.ntmps70 (Nat.le_of_ble_eq_true rfl) ?_
  intro w0 M0 vs hl hv
  obtain ⟨v0, v1, rfl⟩ := len2 hl
  clear hl hv
  refine nav ?_
  (refine aC_region ?_
    <;> refine s_boxa 2 5 fun h2 => ?_
    <;> refine s_boxa 3 5 fun h3 => ?_
    <;> refine xL 4 q_assign ?_
    <;> refine aL_end (nav ?_) <;> try dsimp only)
  (refine aC_region ?_
    <;> (refine yL 6 (q_ldao 2 tAgg25_LfR) fun v6 hv6 => ?_; cases hv6)
    <;> (refine cS 7 (cA Tryz.call24 (hva)) fun v7 hv7 => ?_; cases hv7)
    <;> refine xL 8 q_not ?_
    <;> refine xL 9 q_move ?_
    <;> refine kL 10 ?_
    <;> refine kL 11 ?_
    <;> refine kL 12 ?_
    <;> refine xL 13 q_pick ?_
    <;> refine xL 5 q_assign ?_
    <;> refine aL_end (nav ?_) <;> try dsimp only) <;> (
   first | refine cCd (fun hb5 => ?_) (fun hb5 => ?_) | refine cC (fun hb5 => ?_) (fun hb5 => ?_)
   · first
     | exact Bool.noConfusion hb5
     | (
      refine nav ?_
      (refine aC_region ?_
        <;> refine xL 4 q_assign ?_
        <;> refine aL_end (nav ?_) <;> try dsimp only)
      exact ret_shr (Tryz.results70) rfl rfl)
   · first
     | exact Bool.noConfusion hb5
     | (
      refine nav ?_
      (refine aC_region ?_
        <;> (first | (refine xL 15 (q_fld tFl25_1_LfR) ?_; trace "pk 8") | (refine xL 15 (q_fldo 2 tFl25_1_LfR) ?_; trace "pk 9") | (refine xL 15 (q_fldo 3 tFl25_1_LfR) ?_; trace "pk 10"))
        <;> (first | (refine yL 16 (q_ld tNa3_LfR) fun v16 hv16 => ?_; cases hv16; trace "pk 11") | (refine yL 16 (q_ldo 2 tNa3_LfR) fun v16 hv16 => ?_; cases hv16; trace "pk 12") | (refine yL 16 (q_ldo 3 tNa3_LfR) fun v16 hv16 => ?_; cases hv16; trace "pk 13"))
        <;> (first | (refine xL 17 (q_fld tFl25_1_LfR) ?_; trace "pk 14") | (refine xL 17 (q_fldo 2 tFl25_1_LfR) ?_; trace "pk 15") | (refine xL 17 (q_fldo 3 tFl25_1_LfR) ?_; trace "pk 16"))
        <;> (first | (refine yL 18 (q_ld tNa3_LfR) fun v18 hv18 => ?_; cases hv18; trace "pk 17") | (refine yL 18 (q_ldo 2 tNa3_LfR) fun v18 hv18 => ?_; cases hv18; trace "pk 18") | (refine yL 18 (q_ldo 3 tNa3_LfR) fun v18 hv18 => ?_; cases hv18; trace "pk 19"))
        <;> refine xL 19 q_neq ?_
        <;> refine xL 14 q_assign ?_
        <;> refine aL_end (nav ?_) <;> try dsimp only)
      first | refine cCd (fun hb14 => ?_) (fun hb14 => ?_) | refine cC (fun hb14 => ?_) (fun hb14 => ?_)
      · first
        | exact Bool.noConfusion hb14
        | (
         refine nav ?_
         (refine aC_region ?_
           <;> refine xL 4 q_assign ?_
           <;> refine aL_end (nav ?_) <;> try dsimp only)
         first | exact ret_shr (Tryz.results70) rfl rfl | exact absurd hs (by simpa using hb14))
      · first
        | exact Bool.noConfusion hb14
        | (
         refine nav ?_
         (refine aC_region ?_
           <;> refine xL 4 q_assign ?_
           <;> refine aL_end (nav ?_) <;> try dsimp only)
         first | exact ret_shr (Tryz.results70) rfl rfl | exact absurd (by simpa using hb14) hs)))
theorem aFit_ft (a b : Aut) (ha : autOk a = false) (hb : autOk b = true) (hs : True) : AF Tryz.prog 70 [pAut a, pAut b] (· = pInt 1) := by
  have hva := aValid_e a
  have hvb := aValid_e b
  rw [ha] at hva
  rw [hb] at hvb
  refine AF.of_body 20 Tryz.func70 rfl Tryz.ntmps70 (Nat.le_of_ble_eq_true rfl) ?_
  intro w0 M0 vs hl hv
  obtain ⟨v0, v1, rfl⟩ := len2 hl
  clear hl hv
  refine nav ?_
  (refine aC_region ?_
    <;> refine s_boxa 2 5 fun h2 => ?_
    <;> refine s_boxa 3 5 fun h3 => ?_
    <;> refine xL 4 q_assign ?_
    <;> refine aL_end (nav ?_) <;> try dsimp only)
  (refine aC_region ?_
    <;> (refine yL 6 (q_ldao 2 tAgg25_LfR) fun v6 hv6 => ?_; cases hv6)
    <;> (refine cS 7 (cA Tryz.call24 (hva)) fun v7 hv7 => ?_; cases hv7)
    <;> refine xL 8 q_not ?_
    <;> refine xL 9 q_move ?_
    <;> refine kL 10 ?_
    <;> refine kL 11 ?_
    <;> refine kL 12 ?_
    <;> refine xL 13 q_pick ?_
    <;> refine xL 5 q_assign ?_
    <;> refine aL_end (nav ?_) <;> try dsimp only) <;> (
   first | refine cCd (fun hb5 => ?_) (fun hb5 => ?_) | refine cC (fun hb5 => ?_) (fun hb5 => ?_)
   · first
     | exact Bool.noConfusion hb5
     | (
      refine nav ?_
      (refine aC_region ?_
        <;> refine xL 4 q_assign ?_
        <;> refine aL_end (nav ?_) <;> try dsimp only)
      exact ret_shr (Tryz.results70) rfl rfl)
   · first
     | exact Bool.noConfusion hb5
     | (
      refine nav ?_
      (refine aC_region ?_
        <;> (first | (refine xL 15 (q_fld tFl25_1_LfR) ?_; trace "pk 28") | (refine xL 15 (q_fldo 2 tFl25_1_LfR) ?_; trace "pk 29") | (refine xL 15 (q_fldo 3 tFl25_1_LfR) ?_; trace "pk 30"))
        <;> (first | (refine yL 16 (q_ld tNa3_LfR) fun v16 hv16 => ?_; cases hv16; trace "pk 31") | (refine yL 16 (q_ldo 2 tNa3_LfR) fun v16 hv16 => ?_; cases hv16; trace "pk 32") | (refine yL 16 (q_ldo 3 tNa3_LfR) fun v16 hv16 => ?_; cases hv16; trace "pk 33"))
        <;> (first | (refine xL 17 (q_fld tFl25_1_LfR) ?_; trace "pk 34") | (refine xL 17 (q_fldo 2 tFl25_1_LfR) ?_; trace "pk 35") | (refine xL 17 (q_fldo 3 tFl25_1_LfR) ?_; trace "pk 36"))
        <;> (first | (refine yL 18 (q_ld tNa3_LfR) fun v18 hv18 => ?_; cases hv18; trace "pk 37") | (refine yL 18 (q_ldo 2 tNa3_LfR) fun v18 hv18 => ?_; cases hv18; trace "pk 38") | (refine yL 18 (q_ldo 3 tNa3_LfR) fun v18 hv18 => ?_; cases hv18; trace "pk 39"))
        <;> refine xL 19 q_neq ?_
        <;> refine xL 14 q_assign ?_
        <;> refine aL_end (nav ?_) <;> try dsimp only)
      first | refine cCd (fun hb14 => ?_) (fun hb14 => ?_) | refine cC (fun hb14 => ?_) (fun hb14 => ?_)
      · first
        | exact Bool.noConfusion hb14
        | (
         refine nav ?_
         (refine aC_region ?_
           <;> refine xL 4 q_assign ?_
           <;> refine aL_end (nav ?_) <;> try dsimp only)
         first | exact ret_shr (Tryz.results70) rfl rfl | exact absurd hs (by simpa using hb14))
      · first
        | exact Bool.noConfusion hb14
        | (
         refine nav ?_
         (refine aC_region ?_
           <;> refine xL 4 q_assign ?_
           <;> refine aL_end (nav ?_) <;> try dsimp only)
         first | exact ret_shr (Tryz.results70) rfl rfl | exact absurd (by simpa using hb14) hs)))
theorem aFit_tf (a b : Aut) (ha : autOk a = true) (hb : autOk b = false) (hs : True) : AF Tryz.prog 70 [pAut a, pAut b] (· = pInt 1) := by
  have hva := aValid_e a
  have hvb := aValid_e b
  rw [ha] at hva
  rw [hb] at hvb
  refine AF.of_body 20 Tryz.func70 rfl Tryz.ntmps70 (Nat.le_of_ble_eq_true rfl) ?_
  intro w0 M0 vs hl hv
  obtain ⟨v0, v1, rfl⟩ := len2 hl
  clear hl hv
  refine nav ?_
  (refine aC_region ?_
    <;> refine s_boxa 2 5 fun h2 => ?_
    <;> refine s_boxa 3 5 fun h3 => ?_
    <;> refine xL 4 q_assign ?_
    <;> refine aL_end (nav ?_) <;> try dsimp only)
  (refine aC_region ?_
    <;> (refine yL 6 (q_ldao 2 tAgg25_LfR) fun v6 hv6 => ?_; cases hv6)
    <;> (refine cS 7 (cA Tryz.call24 (hva)) fun v7 hv7 => ?_; cases hv7)
    <;> refine xL 8 q_not ?_
    <;> refine xL 9 q_move ?_
    <;> (refine yL 10 (q_ldao 3 tAgg25_LfR) fun v10 hv10 => ?_; cases hv10)
    <;> (refine cS 11 (cA Tryz.call24 (hvb)) fun v11 hv11 => ?_; cases hv11)
    <;> refine xL 12 q_not ?_
    <;> refine xL 13 q_pick ?_
    <;> refine xL 5 q_assign ?_
    <;> refine aL_end (nav ?_) <;> try dsimp only) <;> (
   first | refine cCd (fun hb5 => ?_) (fun hb5 => ?_) | refine cC (fun hb5 => ?_) (fun hb5 => ?_)
   · first
     | exact Bool.noConfusion hb5
     | (
      refine nav ?_
      (refine aC_region ?_
        <;> refine xL 4 q_assign ?_
        <;> refine aL_end (nav ?_) <;> try dsimp only)
      exact ret_shr (Tryz.results70) rfl rfl)
   · first
     | exact Bool.noConfusion hb5
     | (
      refine nav ?_
      (refine aC_region ?_
        <;> (first | (refine xL 15 (q_fld tFl25_1_LfR) ?_; trace "pk 48") | (refine xL 15 (q_fldo 2 tFl25_1_LfR) ?_; trace "pk 49") | (refine xL 15 (q_fldo 3 tFl25_1_LfR) ?_; trace "pk 50"))
        <;> (first | (refine yL 16 (q_ld tNa3_LfR) fun v16 hv16 => ?_; cases hv16; trace "pk 51") | (refine yL 16 (q_ldo 2 tNa3_LfR) fun v16 hv16 => ?_; cases hv16; trace "pk 52") | (refine yL 16 (q_ldo 3 tNa3_LfR) fun v16 hv16 => ?_; cases hv16; trace "pk 53"))
        <;> (first | (refine xL 17 (q_fld tFl25_1_LfR) ?_; trace "pk 54") | (refine xL 17 (q_fldo 2 tFl25_1_LfR) ?_; trace "pk 55") | (refine xL 17 (q_fldo 3 tFl25_1_LfR) ?_; trace "pk 56"))
        <;> (first | (refine yL 18 (q_ld tNa3_LfR) fun v18 hv18 => ?_; cases hv18; trace "pk 57") | (refine yL 18 (q_ldo 2 tNa3_LfR) fun v18 hv18 => ?_; cases hv18; trace "pk 58") | (refine yL 18 (q_ldo 3 tNa3_LfR) fun v18 hv18 => ?_; cases hv18; trace "pk 59"))
        <;> refine xL 19 q_neq ?_
        <;> refine xL 14 q_assign ?_
        <;> refine aL_end (nav ?_) <;> try dsimp only)
      first | refine cCd (fun hb14 => ?_) (fun hb14 => ?_) | refine cC (fun hb14 => ?_) (fun hb14 => ?_)
      · first
        | exact Bool.noConfusion hb14
        | (
         refine nav ?_
         (refine aC_region ?_
           <;> refine xL 4 q_assign ?_
           <;> refine aL_end (nav ?_) <;> try dsimp only)
         first | exact ret_shr (Tryz.results70) rfl rfl | exact absurd hs (by simpa using hb14))
      · first
        | exact Bool.noConfusion hb14
        | (
         refine nav ?_
         (refine aC_region ?_
           <;> refine xL 4 q_assign ?_
           <;> refine aL_end (nav ?_) <;> try dsimp only)
         first | exact ret_shr (Tryz.results70) rfl rfl | exact absurd (by simpa using hb14) hs)))
theorem aFit_tn (a b : Aut) (ha : autOk a = true) (hb : autOk b = true) (hs : ¬ a.syms = b.syms) : AF Tryz.prog 70 [pAut a, pAut b] (· = pInt 29) := by
  have hva := aValid_e a
  have hvb := aValid_e b
  rw [ha] at hva
  rw [hb] at hvb
  refine AF.of_body 20 Tryz.func70 rfl Tryz.ntmps70 (Nat.le_of_ble_eq_true rfl) ?_
  intro w0 M0 vs hl hv
  obtain ⟨v0, v1, rfl⟩ := len2 hl
  clear hl hv
  refine nav ?_
  (refine aC_region ?_
    <;> refine s_boxa 2 5 fun h2 => ?_
    <;> refine s_boxa 3 5 fun h3 => ?_
    <;> refine xL 4 q_assign ?_
    <;> refine aL_end (nav ?_) <;> try dsimp only)
  (refine aC_region ?_
    <;> (refine yL 6 (q_ldao 2 tAgg25_LfR) fun v6 hv6 => ?_; cases hv6)
    <;> (refine cS 7 (cA Tryz.call24 (hva)) fun v7 hv7 => ?_; cases hv7)
    <;> refine xL 8 q_not ?_
    <;> refine xL 9 q_move ?_
    <;> (refine yL 10 (q_ldao 3 tAgg25_LfR) fun v10 hv10 => ?_; cases hv10)
    <;> (refine cS 11 (cA Tryz.call24 (hvb)) fun v11 hv11 => ?_; cases hv11)
    <;> refine xL 12 q_not ?_
    <;> refine xL 13 q_pick ?_
    <;> refine xL 5 q_assign ?_
    <;> refine aL_end (nav ?_) <;> try dsimp only) <;> (
   first | refine cCd (fun hb5 => ?_) (fun hb5 => ?_) | refine cC (fun hb5 => ?_) (fun hb5 => ?_)
   · first
     | exact Bool.noConfusion hb5
     | (
      refine nav ?_
      (refine aC_region ?_
        <;> refine xL 4 q_assign ?_
        <;> refine aL_end (nav ?_) <;> try dsimp only)
      exact ret_shr (Tryz.results70) rfl rfl)
   · first
     | exact Bool.noConfusion hb5
     | (
      refine nav ?_
      (refine aC_region ?_
        <;> refine xL 15 (q_fldo 2 tFl25_1_LfR) ?_
        <;> (refine yL 16 (q_ldo 2 tNa3_LfR) fun v16 hv16 => ?_; cases hv16)
        <;> refine xL 17 (q_fldo 3 tFl25_1_LfR) ?_
        <;> (refine yL 18 (q_ldo 3 tNa3_LfR) fun v18 hv18 => ?_; cases hv18)
        <;> refine xL 19 q_neq ?_
        <;> refine xL 14 q_assign ?_
        <;> refine aL_end (nav ?_) <;> try dsimp only)
      first | refine cCd (fun hb14 => ?_) (fun hb14 => ?_) | refine cC (fun hb14 => ?_) (fun hb14 => ?_)
      · first
        | exact Bool.noConfusion hb14
        | (
         refine nav ?_
         (refine aC_region ?_
           <;> refine xL 4 q_assign ?_
           <;> refine aL_end (nav ?_) <;> try dsimp only)
         first | exact ret_shr (Tryz.results70) rfl rfl | exact absurd hs (by simpa using hb14))
      · first
        | exact Bool.noConfusion hb14
        | (
         refine nav ?_
         (refine aC_region ?_
           <;> refine xL 4 q_assign ?_
           <;> refine aL_end (nav ?_) <;> try dsimp only)
         first | exact ret_shr (Tryz.results70) rfl rfl | exact absurd (by simpa using hb14) hs)))
theorem aFit_tt (a b : Aut) (ha : autOk a = true) (hb : autOk b = true) (hs : a.syms = b.syms) : AF Tryz.prog 70 [pAut a, pAut b] (· = pInt 0) := by
  have hva := aValid_e a
  have hvb := aValid_e b
  rw [ha] at hva
  rw [hb] at hvb
  refine AF.of_body 20 Tryz.func70 rfl Tryz.ntmps70 (Nat.le_of_ble_eq_true rfl) ?_
  intro w0 M0 vs hl hv
  obtain ⟨v0, v1, rfl⟩ := len2 hl
  clear hl hv
  refine nav ?_
  (refine aC_region ?_
    <;> refine s_boxa 2 5 fun h2 => ?_
    <;> refine s_boxa 3 5 fun h3 => ?_
    <;> refine xL 4 q_assign ?_
    <;> refine aL_end (nav ?_) <;> try dsimp only)
  (refine aC_region ?_
    <;> (refine yL 6 (q_ldao 2 tAgg25_LfR) fun v6 hv6 => ?_; cases hv6)
    <;> (refine cS 7 (cA Tryz.call24 (hva)) fun v7 hv7 => ?_; cases hv7)
    <;> refine xL 8 q_not ?_
    <;> refine xL 9 q_move ?_
    <;> (refine yL 10 (q_ldao 3 tAgg25_LfR) fun v10 hv10 => ?_; cases hv10)
    <;> (refine cS 11 (cA Tryz.call24 (hvb)) fun v11 hv11 => ?_; cases hv11)
    <;> refine xL 12 q_not ?_
    <;> refine xL 13 q_pick ?_
    <;> refine xL 5 q_assign ?_
    <;> refine aL_end (nav ?_) <;> try dsimp only) <;> (
   first | refine cCd (fun hb5 => ?_) (fun hb5 => ?_) | refine cC (fun hb5 => ?_) (fun hb5 => ?_)
   · first
     | exact Bool.noConfusion hb5
     | (
      refine nav ?_
      (refine aC_region ?_
        <;> refine xL 4 q_assign ?_
        <;> refine aL_end (nav ?_) <;> try dsimp only)
      exact ret_shr (Tryz.results70) rfl rfl)
   · first
     | exact Bool.noConfusion hb5
     | (
      refine nav ?_
      (refine aC_region ?_
        <;> refine xL 15 (q_fldo 2 tFl25_1_LfR) ?_
        <;> (refine yL 16 (q_ldo 2 tNa3_LfR) fun v16 hv16 => ?_; cases hv16)
        <;> refine xL 17 (q_fldo 3 tFl25_1_LfR) ?_
        <;> (refine yL 18 (q_ldo 3 tNa3_LfR) fun v18 hv18 => ?_; cases hv18)
        <;> refine xL 19 q_neq ?_
        <;> refine xL 14 q_assign ?_
        <;> refine aL_end (nav ?_) <;> try dsimp only)
      first | refine cCd (fun hb14 => ?_) (fun hb14 => ?_) | refine cC (fun hb14 => ?_) (fun hb14 => ?_)
      · first
        | exact Bool.noConfusion hb14
        | (
         refine nav ?_
         (refine aC_region ?_
           <;> refine xL 4 q_assign ?_
           <;> refine aL_end (nav ?_) <;> try dsimp only)
         first | exact ret_shr (Tryz.results70) rfl rfl | exact absurd hs (by simpa using hb14))
      · first
        | exact Bool.noConfusion hb14
        | (
         refine nav ?_
         (refine aC_region ?_
           <;> refine xL 4 q_assign ?_
           <;> refine aL_end (nav ?_) <;> try dsimp only)
         first | exact ret_shr (Tryz.results70) rfl rfl | exact absurd (by simpa using hb14) hs)))
theorem aFit_e (a b : Aut) : AF Tryz.prog 70 [pAut a, pAut b] (· = pInt (fitX a b)) := by
  cases ha : autOk a
  · rw [fit_no1 ha]
    cases hb : autOk b
    · exact aFit_ff a b ha hb trivial
    · exact aFit_ft a b ha hb trivial
  · cases hb : autOk b
    · rw [fit_no2 hb]; exact aFit_tf a b ha hb trivial
    · by_cases hs : a.syms = b.syms
      · rw [fit_ok ha hb hs]; exact aFit_tt a b ha hb hs
      · rw [fit_ne ha hb hs]; exact aFit_tn a b ha hb hs
theorem aBoth_oe (a b : Aut) (op : Int) {A : Aut} (ha : AF Tryz.prog 83 [pAut a] (· = .tup [pAut A, pInt 0])) (hb : AF Tryz.prog 83 [pAut b] (· = .tup [rawZ, pInt 13])) : AF Tryz.prog 71 [pAut a, pAut b, pInt op] (· = .tup [pPZ, pInt 13]) := by
  refine AF.of_body 42 Tryz.func71 rfl Tryz.ntmps71 (Nat.le_of_ble_eq_true rfl) ?_
  intro w0 M0 vs hl hv
  obtain ⟨v0, v1, v2, rfl⟩ := len3 hl
  obtain rfl := hv 2 _ _ rfl rfl
  clear hl hv
  refine nav ?_
  (refine aC_region ?_
    <;> refine s_boxa 3 5 fun h3 => ?_
    <;> refine s_boxa 4 5 fun h4 => ?_
    <;> refine s_alloc [(.int .i64 0), (.slice none 0 0), (.slice none 0 0), (.slice none 0 0), (.slice none 0 0)] 5 6 tZr95_LfR fun h6 => ?_
    <;> refine xL 7 q_assign ?_
    <;> refine aL_end (nav ?_) <;> try dsimp only)
  (refine aC_region ?_
    <;> (refine yL 15 (q_ldao 3 tAgg25_LfR) fun v15 hv15 => ?_; cases hv15)
    <;> (refine cP 16 (cA Tryz.call83 (ha)) fun va16 vb16 hva16 hvb16 => ?_; cases hvb16)
    <;> refine xL 14 q_move ?_
    <;> refine xL 17 q_extract ?_
    <;> refine xL 18 q_extract ?_
    <;> refine s_alloc [(.int .i64 0), (.int .i64 0), (.slice none 0 0), (.slice none 0 0), (.slice none 0 0)] 5 8 tZr25_LfR fun h8 => ?_
    <;> refine s_sta 8 tAgg25_LfR ?_
    <;> refine xL 9 q_assign ?_
    <;> refine aL_end (nav ?_) <;> try dsimp only)
  (refine aC_region ?_
    <;> (refine yL 20 (q_ldao 4 tAgg25_LfR) fun v20 hv20 => ?_; cases hv20)
    <;> (refine cP 21 (cA Tryz.call83 (hb)) fun va21 vb21 hva21 hvb21 => ?_; cases hvb21)
    <;> refine xL 19 q_move ?_
    <;> refine xL 22 q_extract ?_
    <;> refine xL 23 q_extract ?_
    <;> refine s_alloc [(.int .i64 0), (.int .i64 0), (.slice none 0 0), (.slice none 0 0), (.slice none 0 0)] 5 10 tZr25_LfR fun h10 => ?_
    <;> refine s_sta 10 tAgg25_LfR ?_
    <;> refine xL 11 q_assign ?_
    <;> refine aL_end (nav ?_) <;> try dsimp only)
  (refine aC_region ?_
    <;> refine xL 24 q_move ?_
    <;> refine xL 25 q_neq ?_
    <;> refine xL 26 q_move ?_
    <;> refine xL 27 q_move ?_
    <;> refine xL 28 q_neq ?_
    <;> refine xL 29 q_pick ?_
    <;> refine aL_end (nav ?_) <;> try dsimp only) <;> (
   first | refine cCd (fun hb29 => ?_) (fun hb29 => ?_) | refine cC (fun hb29 => ?_) (fun hb29 => ?_)
   · refine nav ?_
     (refine aC_region ?_
       <;> refine xL 30 (q_build0 stPairs rfl) ?_
       <;> refine s_sta 6 tAgg95_LfR ?_
       <;> refine xL 7 q_assign ?_
       <;> refine aL_end (nav ?_) <;> try dsimp only)
     exact ret_cs (k := 5) 6 (by kernel_rfl) (Tryz.results71) rfl rfl rfl (Nat.le_of_ble_eq_true rfl) (by decide) rfl rfl
   · first | omega | exact absurd (by decide) hb29 | exact Bool.noConfusion hb29)
theorem aBoth_eo (a b : Aut) (op : Int) {A : Aut} (ha : AF Tryz.prog 83 [pAut a] (· = .tup [rawZ, pInt 13])) (hb : AF Tryz.prog 83 [pAut b] (· = .tup [pAut A, pInt 0])) : AF Tryz.prog 71 [pAut a, pAut b, pInt op] (· = .tup [pPZ, pInt 13]) := by
  refine AF.of_body 42 Tryz.func71 rfl Tryz.ntmps71 (Nat.le_of_ble_eq_true rfl) ?_
  intro w0 M0 vs hl hv
  obtain ⟨v0, v1, v2, rfl⟩ := len3 hl
  obtain rfl := hv 2 _ _ rfl rfl
  clear hl hv
  refine nav ?_
  (refine aC_region ?_
    <;> refine s_boxa 3 5 fun h3 => ?_
    <;> refine s_boxa 4 5 fun h4 => ?_
    <;> refine s_alloc [(.int .i64 0), (.slice none 0 0), (.slice none 0 0), (.slice none 0 0), (.slice none 0 0)] 5 6 tZr95_LfR fun h6 => ?_
    <;> refine xL 7 q_assign ?_
    <;> refine aL_end (nav ?_) <;> try dsimp only)
  (refine aC_region ?_
    <;> (refine yL 15 (q_ldao 3 tAgg25_LfR) fun v15 hv15 => ?_; cases hv15)
    <;> (refine cP 16 (cA Tryz.call83 (ha)) fun va16 vb16 hva16 hvb16 => ?_; cases hvb16)
    <;> refine xL 14 q_move ?_
    <;> refine xL 17 q_extract ?_
    <;> refine xL 18 q_extract ?_
    <;> refine s_alloc [(.int .i64 0), (.int .i64 0), (.slice none 0 0), (.slice none 0 0), (.slice none 0 0)] 5 8 tZr25_LfR fun h8 => ?_
    <;> refine s_sta 8 tAgg25_LfR ?_
    <;> refine xL 9 q_assign ?_
    <;> refine aL_end (nav ?_) <;> try dsimp only)
  (refine aC_region ?_
    <;> (refine yL 20 (q_ldao 4 tAgg25_LfR) fun v20 hv20 => ?_; cases hv20)
    <;> (refine cP 21 (cA Tryz.call83 (hb)) fun va21 vb21 hva21 hvb21 => ?_; cases hvb21)
    <;> refine xL 19 q_move ?_
    <;> refine xL 22 q_extract ?_
    <;> refine xL 23 q_extract ?_
    <;> refine s_alloc [(.int .i64 0), (.int .i64 0), (.slice none 0 0), (.slice none 0 0), (.slice none 0 0)] 5 10 tZr25_LfR fun h10 => ?_
    <;> refine s_sta 10 tAgg25_LfR ?_
    <;> refine xL 11 q_assign ?_
    <;> refine aL_end (nav ?_) <;> try dsimp only)
  (refine aC_region ?_
    <;> refine xL 24 q_move ?_
    <;> refine xL 25 q_neq ?_
    <;> refine xL 26 q_move ?_
    <;> refine kL 27 ?_
    <;> refine kL 28 ?_
    <;> refine xL 29 q_pick ?_
    <;> refine aL_end (nav ?_) <;> try dsimp only) <;> (
   first | refine cCd (fun hb29 => ?_) (fun hb29 => ?_) | refine cC (fun hb29 => ?_) (fun hb29 => ?_)
   · refine nav ?_
     (refine aC_region ?_
       <;> refine xL 30 (q_build0 stPairs rfl) ?_
       <;> refine s_sta 6 tAgg95_LfR ?_
       <;> refine xL 7 q_assign ?_
       <;> refine aL_end (nav ?_) <;> try dsimp only)
     exact ret_cs (k := 5) 6 (by kernel_rfl) (Tryz.results71) rfl rfl rfl (Nat.le_of_ble_eq_true rfl) (by decide) rfl rfl
   · first | omega | exact absurd (by decide) hb29 | exact Bool.noConfusion hb29)
theorem aBoth_ee (a b : Aut) (op : Int)  (ha : AF Tryz.prog 83 [pAut a] (· = .tup [rawZ, pInt 13])) (hb : AF Tryz.prog 83 [pAut b] (· = .tup [rawZ, pInt 13])) : AF Tryz.prog 71 [pAut a, pAut b, pInt op] (· = .tup [pPZ, pInt 13]) := by
  refine AF.of_body 42 Tryz.func71 rfl Tryz.ntmps71 (Nat.le_of_ble_eq_true rfl) ?_
  intro w0 M0 vs hl hv
  obtain ⟨v0, v1, v2, rfl⟩ := len3 hl
  obtain rfl := hv 2 _ _ rfl rfl
  clear hl hv
  refine nav ?_
  (refine aC_region ?_
    <;> refine s_boxa 3 5 fun h3 => ?_
    <;> refine s_boxa 4 5 fun h4 => ?_
    <;> refine s_alloc [(.int .i64 0), (.slice none 0 0), (.slice none 0 0), (.slice none 0 0), (.slice none 0 0)] 5 6 tZr95_LfR fun h6 => ?_
    <;> refine xL 7 q_assign ?_
    <;> refine aL_end (nav ?_) <;> try dsimp only)
  (refine aC_region ?_
    <;> (refine yL 15 (q_ldao 3 tAgg25_LfR) fun v15 hv15 => ?_; cases hv15)
    <;> (refine cP 16 (cA Tryz.call83 (ha)) fun va16 vb16 hva16 hvb16 => ?_; cases hvb16)
    <;> refine xL 14 q_move ?_
    <;> refine xL 17 q_extract ?_
    <;> refine xL 18 q_extract ?_
    <;> refine s_alloc [(.int .i64 0), (.int .i64 0), (.slice none 0 0), (.slice none 0 0), (.slice none 0 0)] 5 8 tZr25_LfR fun h8 => ?_
    <;> refine s_sta 8 tAgg25_LfR ?_
    <;> refine xL 9 q_assign ?_
    <;> refine aL_end (nav ?_) <;> try dsimp only)
  (refine aC_region ?_
    <;> (refine yL 20 (q_ldao 4 tAgg25_LfR) fun v20 hv20 => ?_; cases hv20)
    <;> (refine cP 21 (cA Tryz.call83 (hb)) fun va21 vb21 hva21 hvb21 => ?_; cases hvb21)
    <;> refine xL 19 q_move ?_
    <;> refine xL 22 q_extract ?_
    <;> refine xL 23 q_extract ?_
    <;> refine s_alloc [(.int .i64 0), (.int .i64 0), (.slice none 0 0), (.slice none 0 0), (.slice none 0 0)] 5 10 tZr25_LfR fun h10 => ?_
    <;> refine s_sta 10 tAgg25_LfR ?_
    <;> refine xL 11 q_assign ?_
    <;> refine aL_end (nav ?_) <;> try dsimp only)
  (refine aC_region ?_
    <;> refine xL 24 q_move ?_
    <;> refine xL 25 q_neq ?_
    <;> refine xL 26 q_move ?_
    <;> refine kL 27 ?_
    <;> refine kL 28 ?_
    <;> refine xL 29 q_pick ?_
    <;> refine aL_end (nav ?_) <;> try dsimp only) <;> (
   first | refine cCd (fun hb29 => ?_) (fun hb29 => ?_) | refine cC (fun hb29 => ?_) (fun hb29 => ?_)
   · refine nav ?_
     (refine aC_region ?_
       <;> refine xL 30 (q_build0 stPairs rfl) ?_
       <;> refine s_sta 6 tAgg95_LfR ?_
       <;> refine xL 7 q_assign ?_
       <;> refine aL_end (nav ?_) <;> try dsimp only)
     exact ret_cs (k := 5) 6 (by kernel_rfl) (Tryz.results71) rfl rfl rfl (Nat.le_of_ble_eq_true rfl) (by decide) rfl rfl
   · first | omega | exact absurd (by decide) hb29 | exact Bool.noConfusion hb29)
theorem aBoth_yes (a b A B : Aut) (op : Int) (q : List PrS × List (List Nat)) (ha : AF Tryz.prog 83 [pAut a] (· = .tup [pAut A, pInt 0])) (hb : AF Tryz.prog 83 [pAut b] (· = .tup [pAut B, pInt 0])) (hp : AF Tryz.prog 104 [pAut A, pAut B, pInt op] (· = .tup [pPairs A B op q, pBool true])) : AF Tryz.prog 71 [pAut a, pAut b, pInt op] (· = .tup [pPairs A B op q, pInt 0]) := by
  refine AF.of_body 42 Tryz.func71 rfl Tryz.ntmps71 (Nat.le_of_ble_eq_true rfl) ?_
  intro w0 M0 vs hl hv
  obtain ⟨v0, v1, v2, rfl⟩ := len3 hl
  obtain rfl := hv 2 _ _ rfl rfl
  clear hl hv
  refine nav ?_
  (refine aC_region ?_
    <;> refine s_boxa 3 5 fun h3 => ?_
    <;> refine s_boxa 4 5 fun h4 => ?_
    <;> refine s_alloc [(.int .i64 0), (.slice none 0 0), (.slice none 0 0), (.slice none 0 0), (.slice none 0 0)] 5 6 tZr95_LfR fun h6 => ?_
    <;> refine xL 7 q_assign ?_
    <;> refine aL_end (nav ?_) <;> try dsimp only)
  (refine aC_region ?_
    <;> (refine yL 15 (q_ldao 3 tAgg25_LfR) fun v15 hv15 => ?_; cases hv15)
    <;> (refine cP 16 (cA Tryz.call83 (ha)) fun va16 vb16 hva16 hvb16 => ?_; cases hvb16)
    <;> refine xL 14 q_move ?_
    <;> refine xL 17 q_extract ?_
    <;> refine xL 18 q_extract ?_
    <;> refine s_alloc [(.int .i64 0), (.int .i64 0), (.slice none 0 0), (.slice none 0 0), (.slice none 0 0)] 5 8 tZr25_LfR fun h8 => ?_
    <;> refine s_sta 8 tAgg25_LfR ?_
    <;> refine xL 9 q_assign ?_
    <;> refine aL_end (nav ?_) <;> try dsimp only)
  (refine aC_region ?_
    <;> (refine yL 20 (q_ldao 4 tAgg25_LfR) fun v20 hv20 => ?_; cases hv20)
    <;> (refine cP 21 (cA Tryz.call83 (hb)) fun va21 vb21 hva21 hvb21 => ?_; cases hvb21)
    <;> refine xL 19 q_move ?_
    <;> refine xL 22 q_extract ?_
    <;> refine xL 23 q_extract ?_
    <;> refine s_alloc [(.int .i64 0), (.int .i64 0), (.slice none 0 0), (.slice none 0 0), (.slice none 0 0)] 5 10 tZr25_LfR fun h10 => ?_
    <;> refine s_sta 10 tAgg25_LfR ?_
    <;> refine xL 11 q_assign ?_
    <;> refine aL_end (nav ?_) <;> try dsimp only)
  (refine aC_region ?_
    <;> refine xL 24 q_move ?_
    <;> refine xL 25 q_neq ?_
    <;> refine xL 26 q_move ?_
    <;> refine xL 27 q_move ?_
    <;> refine xL 28 q_neq ?_
    <;> refine xL 29 q_pick ?_
    <;> refine aL_end (nav ?_) <;> try dsimp only) <;> (
   first | refine cCd (fun hb29 => ?_) (fun hb29 => ?_) | refine cC (fun hb29 => ?_) (fun hb29 => ?_)
   · first | omega | exact absurd rfl hb29 | exact Bool.noConfusion hb29
   · refine nav ?_
     (refine aC_region ?_
       <;> (refine yL 32 (q_ldao 8 tAgg25_LfR) fun v32 hv32 => ?_; cases hv32)
       <;> (refine yL 33 (q_ldao 10 tAgg25_LfR) fun v33 hv33 => ?_; cases hv33)
       <;> refine xL 34 q_move ?_
       <;> (refine cP 35 (cA Tryz.call104 (hp)) fun va35 vb35 hva35 hvb35 => ?_; cases hvb35)
       <;> refine xL 31 q_move ?_
       <;> refine xL 36 q_extract ?_
       <;> refine xL 37 q_extract ?_
       <;> refine s_alloc [(.int .i64 0), (.slice none 0 0), (.slice none 0 0), (.slice none 0 0), (.slice none 0 0)] 5 12 tZr95_LfR fun h12 => ?_
       <;> refine s_sta 12 tAgg95_LfR ?_
       <;> refine xL 13 q_assign ?_
       <;> refine aL_end (nav ?_) <;> try dsimp only)
     (refine aC_region ?_
       <;> refine xL 38 q_move ?_
       <;> refine xL 39 q_not ?_
       <;> refine aL_end (nav ?_) <;> try dsimp only)
     first | refine cCd (fun hb39 => ?_) (fun hb39 => ?_) | refine cC (fun hb39 => ?_) (fun hb39 => ?_)
     · first
       | exact Bool.noConfusion hb39
       | (
        refine nav ?_
        (refine aC_region ?_
          <;> fail "build: give a hint"
          <;> (first | (refine s_sta 3 tAgg95_LfR ?_; trace "pk 92") | (refine s_sta 4 tAgg95_LfR ?_; trace "pk 93") | (refine s_sta 6 tAgg95_LfR ?_; trace "pk 94") | (refine s_sta 8 tAgg95_LfR ?_; trace "pk 95") | (refine s_sta 10 tAgg95_LfR ?_; trace "pk 96") | (refine s_sta 12 tAgg95_LfR ?_; trace "pk 97"))
          <;> refine xL 7 q_assign ?_
          <;> refine aL_end (nav ?_) <;> try dsimp only)
        exact ret_shr Tryz.results71 rfl rfl)
     · first
       | exact Bool.noConfusion hb39
       | (
        refine nav ?_
        (refine aC_region ?_
          <;> (refine yL 41 (q_ldao 12 tAgg95_LfR) fun v41 hv41 => ?_; cases hv41)
          <;> refine s_sta 6 tAgg95_LfR ?_
          <;> refine xL 7 q_assign ?_
          <;> refine aL_end (nav ?_) <;> try dsimp only)
        exact ret_cs (k := 5) 6 (by kernel_rfl) (Tryz.results71) rfl rfl rfl (Nat.le_of_ble_eq_true rfl) (by decide) rfl rfl))
abbrev V5 := { u : Value × Value × Value × Value × Value // En.one (PV.val u.1) = true ∧ En.one (PV.val u.2.1) = true ∧ En.one (PV.val u.2.2.1) = true ∧ En.one (PV.val u.2.2.2.1) = true ∧ En.one (PV.val u.2.2.2.2) = true }
theorem aBoth_no (a b A B : Aut) (op : Int) (ha : AF Tryz.prog 83 [pAut a] (· = .tup [pAut A, pInt 0])) (hb : AF Tryz.prog 83 [pAut b] (· = .tup [pAut B, pInt 0])) (hp : AF Tryz.prog 104 [pAut A, pAut B, pInt op] (fun p => ∃ i : V5, p = .tup [.agg [.val i.1.1, .val i.1.2.1, .val i.1.2.2.1, .val i.1.2.2.2.1, .val i.1.2.2.2.2], pBool false])) : AF Tryz.prog 71 [pAut a, pAut b, pInt op] (· = .tup [pPZ, pInt 13]) := by
  refine AF.of_body 42 Tryz.func71 rfl Tryz.ntmps71 (Nat.le_of_ble_eq_true rfl) ?_
  intro w0 M0 vs hl hv
  obtain ⟨v0, v1, v2, rfl⟩ := len3 hl
  obtain rfl := hv 2 _ _ rfl rfl
  clear hl hv
  refine nav ?_
  (refine aC_region ?_
    <;> refine s_boxa 3 5 fun h3 => ?_
    <;> refine s_boxa 4 5 fun h4 => ?_
    <;> refine s_alloc [(.int .i64 0), (.slice none 0 0), (.slice none 0 0), (.slice none 0 0), (.slice none 0 0)] 5 6 tZr95_LfR fun h6 => ?_
    <;> refine xL 7 q_assign ?_
    <;> refine aL_end (nav ?_) <;> try dsimp only)
  (refine aC_region ?_
    <;> (refine yL 15 (q_ldao 3 tAgg25_LfR) fun v15 hv15 => ?_; cases hv15)
    <;> (refine cP 16 (cA Tryz.call83 (ha)) fun va16 vb16 hva16 hvb16 => ?_; cases hvb16)
    <;> refine xL 14 q_move ?_
    <;> refine xL 17 q_extract ?_
    <;> refine xL 18 q_extract ?_
    <;> refine s_alloc [(.int .i64 0), (.int .i64 0), (.slice none 0 0), (.slice none 0 0), (.slice none 0 0)] 5 8 tZr25_LfR fun h8 => ?_
    <;> refine s_sta 8 tAgg25_LfR ?_
    <;> refine xL 9 q_assign ?_
    <;> refine aL_end (nav ?_) <;> try dsimp only)
  (refine aC_region ?_
    <;> (refine yL 20 (q_ldao 4 tAgg25_LfR) fun v20 hv20 => ?_; cases hv20)
    <;> (refine cP 21 (cA Tryz.call83 (hb)) fun va21 vb21 hva21 hvb21 => ?_; cases hvb21)
    <;> refine xL 19 q_move ?_
    <;> refine xL 22 q_extract ?_
    <;> refine xL 23 q_extract ?_
    <;> refine s_alloc [(.int .i64 0), (.int .i64 0), (.slice none 0 0), (.slice none 0 0), (.slice none 0 0)] 5 10 tZr25_LfR fun h10 => ?_
    <;> refine s_sta 10 tAgg25_LfR ?_
    <;> refine xL 11 q_assign ?_
    <;> refine aL_end (nav ?_) <;> try dsimp only)
  (refine aC_region ?_
    <;> refine xL 24 q_move ?_
    <;> refine xL 25 q_neq ?_
    <;> refine xL 26 q_move ?_
    <;> refine xL 27 q_move ?_
    <;> refine xL 28 q_neq ?_
    <;> refine xL 29 q_pick ?_
    <;> refine aL_end (nav ?_) <;> try dsimp only) <;> (
   first | refine cCd (fun hb29 => ?_) (fun hb29 => ?_) | refine cC (fun hb29 => ?_) (fun hb29 => ?_)
   · first | omega | exact absurd rfl hb29 | exact Bool.noConfusion hb29
   · refine nav ?_
     (refine aC_region ?_
       <;> (refine yL 32 (q_ldao 8 tAgg25_LfR) fun v32 hv32 => ?_; cases hv32)
       <;> (refine yL 33 (q_ldao 10 tAgg25_LfR) fun v33 hv33 => ?_; cases hv33)
       <;> refine xL 34 q_move ?_
       <;> (refine cPx 35 (cA Tryz.call104 hp) (fun i35 v1 v2 hv1 hv2 => ?_) (fun _ => rfl); cases hv2; obtain ⟨⟨u0, u1, u2, u3, u4⟩, n0, n1, n2, n3, n4⟩ := i35; dsimp only at n0 n1 n2 n3 n4)
       <;> refine xL 31 q_move ?_
       <;> refine xL 36 q_extract ?_
       <;> refine xL 37 q_extract ?_
       <;> refine s_alloc [(.int .i64 0), (.slice none 0 0), (.slice none 0 0), (.slice none 0 0), (.slice none 0 0)] 5 12 tZr95_LfR fun h12 => ?_
       <;> refine s_sta 12 tAgg95_LfR ?_
       <;> refine xL 13 q_assign ?_
       <;> refine aL_end (nav ?_) <;> try dsimp only)
     (refine aC_region ?_
       <;> refine xL 38 q_move ?_
       <;> refine xL 39 q_not ?_
       <;> refine aL_end (nav ?_) <;> try dsimp only)
     first | refine cCd (fun hb39 => ?_) (fun hb39 => ?_) | refine cC (fun hb39 => ?_) (fun hb39 => ?_)
     · first
       | exact Bool.noConfusion hb39
       | (
        refine nav ?_
        (refine aC_region ?_
          <;> refine xL 40 (q_build0 stPairs rfl) ?_
          <;> refine s_sta 6 tAgg95_LfR ?_
          <;> refine xL 7 q_assign ?_
          <;> refine aL_end (nav ?_) <;> try dsimp only)
        exact ret_cs (k := 5) 6 (by kernel_rfl) (Tryz.results71) rfl rfl rfl (Nat.le_of_ble_eq_true rfl) (by decide) rfl rfl)
     · first
       | exact Bool.noConfusion hb39
       | (
        refine nav ?_
        (refine aC_region ?_
          <;> (first | (refine yL 41 (q_lda tAgg95_LfR) fun v41 hv41 => ?_; cases hv41; trace "pk 102") | (refine yL 41 (q_ldao 3 tAgg95_LfR) fun v41 hv41 => ?_; cases hv41; trace "pk 103") | (refine yL 41 (q_ldao 4 tAgg95_LfR) fun v41 hv41 => ?_; cases hv41; trace "pk 104") | (refine yL 41 (q_ldao 6 tAgg95_LfR) fun v41 hv41 => ?_; cases hv41; trace "pk 105") | (refine yL 41 (q_ldao 8 tAgg95_LfR) fun v41 hv41 => ?_; cases hv41; trace "pk 106") | (refine yL 41 (q_ldao 10 tAgg95_LfR) fun v41 hv41 => ?_; cases hv41; trace "pk 107") | (refine yL 41 (q_ldao 12 tAgg95_LfR) fun v41 hv41 => ?_; cases hv41; trace "pk 108"))
          <;> (first | (refine s_sta 3 tAgg95_LfR ?_; trace "pk 109") | (refine s_sta 4 tAgg95_LfR ?_; trace "pk 110") | (refine s_sta 6 tAgg95_LfR ?_; trace "pk 111") | (refine s_sta 8 tAgg95_LfR ?_; trace "pk 112") | (refine s_sta 10 tAgg95_LfR ?_; trace "pk 113") | (refine s_sta 12 tAgg95_LfR ?_; trace "pk 114"))
          <;> refine xL 7 q_assign ?_
          <;> refine aL_end (nav ?_) <;> try dsimp only)
        exact ret_shr Tryz.results71 rfl rfl))
theorem lim_err {x : Option Aut} {e : Int} (h : lim x = .error e) : e = 13 := by
  cases x with
  | some a => cases h
  | none => cases h; rfl
theorem redX_err {a : Aut} {e : Int} (h : redX a = .error e) : e = 13 := by
  unfold redX at h
  split at h
  · exact lim_err h
  · cases h; rfl
theorem aBoth_e (a b : Aut) (op : Int) (hf : fitX a b = 0) : AF Tryz.prog 71 [pAut a, pAut b, pInt op] (· = resB a b op) := by
  obtain ⟨h1, h2, h3⟩ := fit_zero hf
  have ha := aReduced_x a (aok_of h1)
  have hb := aReduced_x b (aok_of h2)
  unfold resB bothX
  cases ea : redX a with
  | error e =>
    obtain rfl := redX_err ea
    rw [ea] at ha
    cases eb : redX b with
    | error f =>
      obtain rfl := redX_err eb
      rw [eb] at hb
      exact aBoth_ee a b op ha hb
    | ok B => rw [eb] at hb; exact aBoth_eo a b op ha hb
  | ok A =>
    rw [ea] at ha
    cases eb : redX b with
    | error f =>
      obtain rfl := redX_err eb
      rw [eb] at hb
      exact aBoth_oe a b op ha hb
    | ok B =>
      rw [eb] at hb
      obtain ⟨dA, sA⟩ := redX_det (aok_of h1) ea
      obtain ⟨dB, sB⟩ := redX_det (aok_of h2) eb
      have hp := aProduct_e A B op dA dB (by rw [sA, sB, h3])
      dsimp only
      cases eq : prodQ A B with
      | some q => exact aBoth_yes a b A B op q ha hb (hp.mono fun p hr => by
          rcases hr with ⟨q', h4, h5⟩ | ⟨h4, _⟩
          · rw [eq] at h4; cases h4; exact h5
          · rw [eq] at h4; cases h4)
      | none => exact aBoth_no a b A B op ha hb (hp.mono fun p hr => by
          rcases hr with ⟨q', h4, h5⟩ | ⟨_, u0, u1, u2, u3, u4, n0, n1, n2, n3, n4, h5⟩
          · rw [eq] at h4; cases h4
          · exact ⟨⟨(u0, u1, u2, u3, u4), n0, n1, n2, n3, n4⟩, h5⟩)
theorem aCompare_bad (a b : Aut) (op e : Int) (he : ¬ e = 0) (hf : AF Tryz.prog 70 [pAut a, pAut b] (· = pInt e)) : AF Tryz.prog 85 [pAut a, pAut b, pInt op] (· = .tup [pBool false, pInts [], pInt e]) := by
  refine AF.of_body 38 Tryz.func85 rfl Tryz.ntmps85 (Nat.le_of_ble_eq_true rfl) ?_
  intro w0 M0 vs hl hv
  obtain ⟨v0, v1, v2, rfl⟩ := len3 hl
  obtain rfl := hv 2 _ _ rfl rfl
  clear hl hv
  refine nav ?_
  (refine aC_region ?_
    <;> refine s_boxa 3 5 fun h3 => ?_
    <;> refine s_boxa 4 5 fun h4 => ?_
    <;> refine xL 6 q_assign ?_
    <;> refine xL 7 q_assign ?_
    <;> refine xL 8 q_assign ?_
    <;> refine aL_end (nav ?_) <;> try dsimp only)
  (refine aC_region ?_
    <;> (refine yL 14 (q_ldao 3 tAgg25_LfR) fun v14 hv14 => ?_; cases hv14)
    <;> (refine yL 15 (q_ldao 4 tAgg25_LfR) fun v15 hv15 => ?_; cases hv15)
    <;> (refine cS 16 (cA Tryz.call70 (hf)) fun v16 hv16 => ?_; cases hv16)
    <;> refine xL 9 q_assign ?_
    <;> refine aL_end (nav ?_) <;> try dsimp only)
  (refine aC_region ?_
    <;> refine xL 17 q_move ?_
    <;> refine xL 18 q_neq ?_
    <;> refine aL_end (nav ?_) <;> try dsimp only)
  first | refine cCd (fun hb18 => ?_) (fun hb18 => ?_) | refine cC (fun hb18 => ?_) (fun hb18 => ?_)
  · refine nav ?_
    (refine aC_region ?_
      <;> refine xL 19 q_move ?_
      <;> refine xL 6 q_assign ?_
      <;> refine xL 7 q_assign ?_
      <;> refine xL 8 q_assign ?_
      <;> refine aL_end (nav ?_) <;> try dsimp only)
    refine aR_ent (nilSlD (t := 7) rfl) fun _ => ?_
    exact ret_sss (Tryz.results85) rfl rfl rfl rfl
  · exact absurd (by simpa using hb18) he
theorem aCompare_err (a b : Aut) (op e : Int) (he : ¬ e = 0) (hf : AF Tryz.prog 70 [pAut a, pAut b] (· = pInt 0)) (hb : AF Tryz.prog 71 [pAut a, pAut b, pInt op] (· = .tup [pPZ, pInt e])) : AF Tryz.prog 85 [pAut a, pAut b, pInt op] (· = .tup [pBool false, pInts [], pInt e]) := by
  refine AF.of_body 38 Tryz.func85 rfl Tryz.ntmps85 (Nat.le_of_ble_eq_true rfl) ?_
  intro w0 M0 vs hl hv
  obtain ⟨v0, v1, v2, rfl⟩ := len3 hl
  obtain rfl := hv 2 _ _ rfl rfl
  clear hl hv
  refine nav ?_
  (refine aC_region ?_
    <;> refine s_boxa 3 5 fun h3 => ?_
    <;> refine s_boxa 4 5 fun h4 => ?_
    <;> refine xL 6 q_assign ?_
    <;> refine xL 7 q_assign ?_
    <;> refine xL 8 q_assign ?_
    <;> refine aL_end (nav ?_) <;> try dsimp only)
  (refine aC_region ?_
    <;> (refine yL 14 (q_ldao 3 tAgg25_LfR) fun v14 hv14 => ?_; cases hv14)
    <;> (refine yL 15 (q_ldao 4 tAgg25_LfR) fun v15 hv15 => ?_; cases hv15)
    <;> (refine cS 16 (cA Tryz.call70 (hf)) fun v16 hv16 => ?_; cases hv16)
    <;> refine xL 9 q_assign ?_
    <;> refine aL_end (nav ?_) <;> try dsimp only)
  (refine aC_region ?_
    <;> refine xL 17 q_move ?_
    <;> refine xL 18 q_neq ?_
    <;> refine aL_end (nav ?_) <;> try dsimp only)
  first | refine cCd (fun hb18 => ?_) (fun hb18 => ?_) | refine cC (fun hb18 => ?_) (fun hb18 => ?_)
  · first | omega | exact absurd rfl hb18 | exact Bool.noConfusion hb18
  · refine nav ?_
    (refine aC_region ?_
      <;> (refine yL 21 (q_ldao 3 tAgg25_LfR) fun v21 hv21 => ?_; cases hv21)
      <;> (refine yL 22 (q_ldao 4 tAgg25_LfR) fun v22 hv22 => ?_; cases hv22)
      <;> refine xL 23 q_move ?_
      <;> (refine cP 24 (cA Tryz.call71 (hb)) fun va24 vb24 hva24 hvb24 => ?_; cases hvb24)
      <;> refine xL 20 q_move ?_
      <;> refine xL 25 q_extract ?_
      <;> refine xL 26 q_extract ?_
      <;> refine s_alloc [(.int .i64 0), (.slice none 0 0), (.slice none 0 0), (.slice none 0 0), (.slice none 0 0)] 5 10 tZr95_LfR fun h10 => ?_
      <;> refine s_sta 10 tAgg95_LfR ?_
      <;> refine xL 11 q_assign ?_
      <;> refine aL_end (nav ?_) <;> try dsimp only)
    (refine aC_region ?_
      <;> refine xL 27 q_move ?_
      <;> refine xL 28 q_neq ?_
      <;> refine aL_end (nav ?_) <;> try dsimp only)
    first | refine cCd (fun hb28 => ?_) (fun hb28 => ?_) | refine cC (fun hb28 => ?_) (fun hb28 => ?_)
    · refine nav ?_
      (refine aC_region ?_
        <;> refine xL 29 q_move ?_
        <;> refine xL 6 q_assign ?_
        <;> refine xL 7 q_assign ?_
        <;> refine xL 8 q_assign ?_
        <;> refine aL_end (nav ?_) <;> try dsimp only)
      refine aR_ent (nilSlD (t := 7) rfl) fun _ => ?_
      exact ret_sss (Tryz.results85) rfl rfl rfl rfl
    · exact absurd (by simpa using hb28) he
theorem aCompare_ok (a b A B : Aut) (op : Int) (q : List PrS × List (List Nat)) (x : List Int) (t : Bool) (hf : AF Tryz.prog 70 [pAut a, pAut b] (· = pInt 0)) (hb : AF Tryz.prog 71 [pAut a, pAut b, pInt op] (· = .tup [pPairs A B op q, pInt 0])) (hg : AF Tryz.prog 115 [pPairs A B op q] (· = .tup [pInts x, pBool t])) : AF Tryz.prog 85 [pAut a, pAut b, pInt op] (· = .tup [pBool (!t), pInts x, pInt 0]) := by
  refine AF.of_body 38 Tryz.func85 rfl Tryz.ntmps85 (Nat.le_of_ble_eq_true rfl) ?_
  intro w0 M0 vs hl hv
  obtain ⟨v0, v1, v2, rfl⟩ := len3 hl
  obtain rfl := hv 2 _ _ rfl rfl
  clear hl hv
  refine nav ?_
  (refine aC_region ?_
    <;> refine s_boxa 3 5 fun h3 => ?_
    <;> refine s_boxa 4 5 fun h4 => ?_
    <;> refine xL 6 q_assign ?_
    <;> refine xL 7 q_assign ?_
    <;> refine xL 8 q_assign ?_
    <;> refine aL_end (nav ?_) <;> try dsimp only)
  (refine aC_region ?_
    <;> (refine yL 14 (q_ldao 3 tAgg25_LfR) fun v14 hv14 => ?_; cases hv14)
    <;> (refine yL 15 (q_ldao 4 tAgg25_LfR) fun v15 hv15 => ?_; cases hv15)
    <;> (refine cS 16 (cA Tryz.call70 (hf)) fun v16 hv16 => ?_; cases hv16)
    <;> refine xL 9 q_assign ?_
    <;> refine aL_end (nav ?_) <;> try dsimp only)
  (refine aC_region ?_
    <;> refine xL 17 q_move ?_
    <;> refine xL 18 q_neq ?_
    <;> refine aL_end (nav ?_) <;> try dsimp only)
  first | refine cCd (fun hb18 => ?_) (fun hb18 => ?_) | refine cC (fun hb18 => ?_) (fun hb18 => ?_)
  · first | omega | exact absurd rfl hb18 | exact Bool.noConfusion hb18
  · refine nav ?_
    (refine aC_region ?_
      <;> (refine yL 21 (q_ldao 3 tAgg25_LfR) fun v21 hv21 => ?_; cases hv21)
      <;> (refine yL 22 (q_ldao 4 tAgg25_LfR) fun v22 hv22 => ?_; cases hv22)
      <;> refine xL 23 q_move ?_
      <;> (refine cP 24 (cA Tryz.call71 (hb)) fun va24 vb24 hva24 hvb24 => ?_; cases hvb24)
      <;> refine xL 20 q_move ?_
      <;> refine xL 25 q_extract ?_
      <;> refine xL 26 q_extract ?_
      <;> refine s_alloc [(.int .i64 0), (.slice none 0 0), (.slice none 0 0), (.slice none 0 0), (.slice none 0 0)] 5 10 tZr95_LfR fun h10 => ?_
      <;> refine s_sta 10 tAgg95_LfR ?_
      <;> refine xL 11 q_assign ?_
      <;> refine aL_end (nav ?_) <;> try dsimp only)
    (refine aC_region ?_
      <;> refine xL 27 q_move ?_
      <;> refine xL 28 q_neq ?_
      <;> refine aL_end (nav ?_) <;> try dsimp only)
    first | refine cCd (fun hb28 => ?_) (fun hb28 => ?_) | refine cC (fun hb28 => ?_) (fun hb28 => ?_)
    · first | omega | exact absurd rfl hb28 | exact Bool.noConfusion hb28
    · refine nav ?_
      (refine aC_region ?_
        <;> (refine yL 31 (q_ldao 10 tAgg95_LfR) fun v31 hv31 => ?_; cases hv31)
        <;> (refine cP 32 (cA Tryz.call115 (hg)) fun va32 vb32 hva32 hvb32 => ?_; cases hvb32)
        <;> refine xL 30 q_move ?_
        <;> refine xL 33 q_extract ?_
        <;> refine xL 34 q_extract ?_
        <;> refine xL 12 q_assign ?_
        <;> refine xL 13 q_assign ?_
        <;> refine aL_end (nav ?_) <;> try dsimp only)
      (refine aC_region ?_
        <;> refine xL 35 q_move ?_
        <;> refine xL 36 q_not ?_
        <;> refine xL 37 q_move ?_
        <;> refine xL 6 q_assign ?_
        <;> refine xL 7 q_assign ?_
        <;> refine xL 8 q_assign ?_
        <;> refine aL_end (nav ?_) <;> try dsimp only)
      exact ret_sss (Tryz.results85) rfl rfl rfl rfl
def resC (x : Bool × List Int × Int) : PV := .tup [pBool x.1, pInts x.2.1, pInt x.2.2]
theorem aCompare_e (a b : Aut) (op : Int) : AF Tryz.prog 85 [pAut a, pAut b, pInt op] (· = resC (cmpX a b op)) := by
  have hf := aFit_e a b
  unfold cmpX
  by_cases h0 : fitX a b = 0
  · rw [if_neg (fun h => h h0)]
    have hb := aBoth_e a b op h0
    rw [h0] at hf
    unfold resB at hb
    cases e : bothX a b with
    | error f =>
      rw [e] at hb
      refine aCompare_err a b op f (fun hf0 => ?_) hf hb
      unfold bothX at e
      split at e
      · split at e <;> cases e
        omega
      · cases e; omega
    | ok x =>
      obtain ⟨A, B, o, rows⟩ := x
      rw [e] at hb
      obtain ⟨h1, h2, h3⟩ := fit_zero h0
      unfold bothX at e
      split at e
      · rename_i A' B' ea eb
        split at e
        · rename_i q' eq
          cases e
          obtain ⟨dA, sA⟩ := redX_det (aok_of h1) ea
          obtain ⟨dB, sB⟩ := redX_det (aok_of h2) eb
          have hok := (prod_ok dA dB (by rw [sA, sB, h3]) eq).1
          have hg := aFirst_e A B op o rows eq hok.zero hok.cap
          have := aCompare_ok a b A B op (o, rows) _ _ hf hb hg
          rw [Bool.not_not] at this
          exact this
        · cases e
      · cases e
  · rw [if_pos h0]
    exact aCompare_bad a b op _ h0 hf
theorem aEquivalent_c (a b : Aut) (t : Bool) (l : List Int) (e : Int) (h : AF Tryz.prog 85 [pAut a, pAut b, pInt 4] (· = .tup [pBool t, pInts l, pInt e])) : AF Tryz.prog 33 [pAut a, pAut b] (· = .tup [pBool t, pInts l, pInt e]) := by
  refine AF.of_body 13 Tryz.func33 rfl Tryz.ntmps33 (Nat.le_of_ble_eq_true rfl) ?_
  intro w0 M0 vs hl hv
  obtain ⟨v0, v1, rfl⟩ := len2 hl
  clear hl hv
  refine nav ?_
  (refine aC_region ?_
    <;> refine s_boxa 2 5 fun h2 => ?_
    <;> refine s_boxa 3 5 fun h3 => ?_
    <;> refine xL 4 q_assign ?_
    <;> refine xL 5 q_assign ?_
    <;> refine xL 6 q_assign ?_
    <;> refine aL_end (nav ?_) <;> try dsimp only)
  (refine aC_region ?_
    <;> (refine yL 7 (q_ldao 2 tAgg25_LfR) fun v7 hv7 => ?_; cases hv7)
    <;> (refine yL 8 (q_ldao 3 tAgg25_LfR) fun v8 hv8 => ?_; cases hv8)
    <;> (refine cPx3 9 (cA Tryz.call85 h) fun va9 vb9 vc9 hva9 hvb9 hvc9 => ?_; cases hva9; cases hvc9)
    <;> refine xL 10 q_extract ?_
    <;> refine xL 11 q_extract ?_
    <;> refine xL 12 q_extract ?_
    <;> refine xL 4 q_assign ?_
    <;> refine xL 5 q_assign ?_
    <;> refine xL 6 q_assign ?_
    <;> refine aL_end (nav ?_) <;> try dsimp only)
  exact ret_sss (Tryz.results33) rfl rfl rfl rfl
theorem aEquivalent_e (a b : Aut) : AF Tryz.prog 33 [pAut a, pAut b] (· = resC (cmpX a b 4)) := aEquivalent_c a b _ _ _ (aCompare_e a b 4)
end Go.Proofs.YtgigclnaicbiaaaGreatDoor

namespace Go.Proofs.YtgigclnaicbiaaaGreatDoor
open Go.RowKit Go.Cb Go.En
set_option linter.all false
set_option maxRecDepth 100000

theorem tAgg72_LfS : AggT Tryz.prog 72 3 = true := by kernel_rfl
theorem tNa22_LfS : NoAgg Tryz.prog 22 = true := by kernel_rfl
theorem tNa3_LfS : NoAgg Tryz.prog 3 = true := by kernel_rfl
theorem tSl22_LfS : SlT Tryz.prog 22 3 1 = true := by kernel_rfl
theorem tSl23_LfS : SlT Tryz.prog 23 72 3 = true := by kernel_rfl
theorem tSl28_LfS : SlT Tryz.prog 28 22 1 = true := by kernel_rfl

theorem eq_end {α : Type} {a b : List α} (hl : a.length = b.length) (h : ∀ (j : Nat) (x y : α), a[j]? = some x → b[j]? = some y → x = y) : a = b := by
  refine List.ext_getElem? fun j => ?_
  by_cases hj : j < a.length
  · obtain ⟨x, hx⟩ := get_some hj
    obtain ⟨y, hy⟩ := get_some (show j < b.length by omega)
    rw [hx, hy, h j x y hx hy]
  · rw [List.getElem?_eq_none (by omega), List.getElem?_eq_none (by omega)]
theorem ne_at {α : Type} {a b : List α} {j : Nat} {x y : α} (hx : a[j]? = some x) (hy : b[j]? = some y) (h : x ≠ y) : a ≠ b := fun e => by
  subst e; rw [hx] at hy; exact h (Option.some.inj hy)
instance : DecidableEq Mv := fun a b => if h : eqM a b = true then .isTrue (eqM_iff.1 h) else .isFalse fun e => h (eqM_iff.2 e)
theorem eqM_dec (a b : Mv) : eqM a b = decide (a = b) := by
  by_cases h : a = b
  · rw [decide_eq_true h]; exact eqM_iff.2 h
  · rw [decide_eq_false h]
    cases e : eqM a b with
    | false => rfl
    | true => exact absurd (eqM_iff.1 e) h
theorem sEqualInt_e (a b : List Int) : AF Tryz.prog 32 [pInts a, pInts b] (· = pBool (decide (a = b))) := by
  refine AF.of_body 26 Tryz.func32 rfl Tryz.ntmps32 (Nat.le_of_ble_eq_true rfl) ?_
  intro w0 M0 vs hl hv
  obtain ⟨v0, v1, rfl⟩ := len2 hl
  clear hl hv
  refine aC_slen 0 rfl fun hlen => ?_
  refine aC_slen 1 rfl fun hlen2 => ?_
  refine nav ?_
  (refine aC_region ?_
    <;> refine xL 4 q_assign ?_
    <;> refine aL_end (nav ?_) <;> try dsimp only)
  (refine aC_region ?_
    <;> refine xL 6 q_move ?_
    <;> refine xL 7 (q_len tSl22_LfS) ?_
    <;> refine xL 8 q_move ?_
    <;> refine xL 9 (q_len tSl22_LfS) ?_
    <;> refine xL 10 q_neq ?_
    <;> refine aL_end (nav ?_) <;> try dsimp only)
  first | refine cCd (fun hb10 => ?_) (fun hb10 => ?_) | refine cC (fun hb10 => ?_) (fun hb10 => ?_)
  · first
    | exact Bool.noConfusion hb10
    | (
     refine nav ?_
     (refine aC_region ?_
       <;> refine xL 4 q_assign ?_
       <;> refine aL_end (nav ?_) <;> try dsimp only)
     refine ret_shr (Tryz.results32) rfl ?_
     rw [decide_eq_false (fun e => by subst e; exact hb10 rfl)])
  · first
    | exact Bool.noConfusion hb10
    | (
     have hll : a.length = b.length := by omega
     refine nav ?_
     (refine aC_region ?_
       <;> refine xL 11 q_move ?_
       <;> refine xL 12 (q_len tSl22_LfS) ?_
       <;> refine xL 13 q_move ?_
       <;> refine aL_end (nav ?_) <;> try dsimp only)
     refine aC_loop (ι := { k : Nat // k ≤ a.length ∧ ∀ j x y, j < k → a[j]? = some x → b[j]? = some y → x = y }) (fun k => ⟨[(0, _, _), (1, _, _), (12, _, _), (13, .int .i64 k.1, pInt k.1)], []⟩) (fun k => a.length - k.1) ⟨0, by omega, by omega⟩ (fun a w H => H.weaken ⟨rfl, rfl, rfl, rfl, trivial⟩ trivial) ?_
     rintro ⟨k, hk, hp⟩
     dsimp only
     refine nav ?_
     (refine aC_region ?_
       <;> refine xL 14 q_lss ?_
       <;> refine aL_end (nav ?_) <;> try dsimp only)
     first | refine cCd (fun hb14 => ?_) (fun hb14 => ?_) | refine cC (fun hb14 => ?_) (fun hb14 => ?_)
     · first
       | exact Bool.noConfusion hb14
       | (
        obtain ⟨x, hx⟩ := get_some (show k < a.length by omega)
        obtain ⟨y, hy⟩ := get_some (show k < b.length by omega)
        have e1 := map_at (f := pInt) hx
        have e2 := map_at (f := pInt) hy
        refine nav ?_
        (refine aC_region ?_
          <;> refine xL 15 q_move ?_
          <;> refine xL 5 q_assign ?_
          <;> refine aL_end (nav ?_) <;> try dsimp only)
        (refine aC_draw (fun i => ([] : List Nat).elem i) [] (by kernel_rfl) ?_
          <;> refine xD 0 16 rfl q_move ?_
          <;> refine xD 1 17 rfl q_move ?_
          <;> refine xD 2 18 rfl (q_idxN tSl22_LfS) ?_
          <;> (refine yD 3 19 rfl (q_ld tNa3_LfS) fun v19 hv19 => ?_; cases hv19)
          <;> refine xD 4 20 rfl q_move ?_
          <;> refine xE 5 21 rfl q_move ?_
          <;> refine xE 6 22 rfl (q_idxN tSl22_LfS) ?_
          <;> (refine yE 7 23 rfl (q_ld tNa3_LfS) fun v23 hv23 => ?_; cases hv23)
          <;> refine xE 8 24 rfl q_neq ?_
          <;> refine aD_end (by kernel_rfl) (nav ?_)
          <;> try dsimp only)
        first | refine cCd (fun hb24 => ?_) (fun hb24 => ?_) | refine cC (fun hb24 => ?_) (fun hb24 => ?_)
        · first
          | exact Bool.noConfusion hb24
          | (
           refine nav ?_
           (refine aC_region ?_
             <;> refine xL 4 q_assign ?_
             <;> refine aL_end (nav ?_) <;> try dsimp only)
           refine ret_shr (Tryz.results32) rfl ?_
           rw [decide_eq_false (ne_at hx hy (by simpa using hb24))])
        · first
          | exact Bool.noConfusion hb24
          | (
           refine nav ?_
           (refine aC_region ?_
             <;> refine xL 25 q_add ?_
             <;> refine xL 13 q_move ?_
             <;> refine aL_end (nav ?_) <;> try dsimp only)
           refine aN_again (
             ⟨k + 1, lt_of_get hx, fun j x' y' hj hx' hy' => by
               by_cases e : j = k
               · subst e; rw [hx] at hx'; rw [hy] at hy'; cases hx'; cases hy'; simpa using hb24
               · exact hp j x' y' (by omega) hx' hy'⟩
             ) (by dsimp only; omega) ⟨rfl, rfl, rfl, rfl, trivial⟩ trivial))
     · first
       | exact Bool.noConfusion hb14
       | (
        refine nav ?_
        (refine aC_region ?_
          <;> refine xL 4 q_assign ?_
          <;> refine aL_end (nav ?_) <;> try dsimp only)
        refine ret_shr (Tryz.results32) rfl ?_
        rw [decide_eq_true (eq_end hll fun j x y hx hy => hp j x y (by have := lt_of_get hx; omega) hx hy)]))
theorem sEqualMv_e (a b : List Mv) : AF Tryz.prog 54 [pMvs a, pMvs b] (· = pBool (decide (a = b))) := by
  refine AF.of_body 26 Tryz.func54 rfl Tryz.ntmps54 (Nat.le_of_ble_eq_true rfl) ?_
  intro w0 M0 vs hl hv
  obtain ⟨v0, v1, rfl⟩ := len2 hl
  clear hl hv
  refine aC_slen 0 rfl fun hlen => ?_
  refine aC_slen 1 rfl fun hlen2 => ?_
  refine nav ?_
  (refine aC_region ?_
    <;> refine xL 4 q_assign ?_
    <;> refine aL_end (nav ?_) <;> try dsimp only)
  (refine aC_region ?_
    <;> refine xL 6 q_move ?_
    <;> refine xL 7 (q_len tSl23_LfS) ?_
    <;> refine xL 8 q_move ?_
    <;> refine xL 9 (q_len tSl23_LfS) ?_
    <;> refine xL 10 q_neq ?_
    <;> refine aL_end (nav ?_) <;> try dsimp only)
  first | refine cCd (fun hb10 => ?_) (fun hb10 => ?_) | refine cC (fun hb10 => ?_) (fun hb10 => ?_)
  · first
    | exact Bool.noConfusion hb10
    | (
     refine nav ?_
     (refine aC_region ?_
       <;> refine xL 4 q_assign ?_
       <;> refine aL_end (nav ?_) <;> try dsimp only)
     refine ret_shr (Tryz.results54) rfl ?_
     rw [decide_eq_false (fun e => by subst e; exact hb10 rfl)])
  · first
    | exact Bool.noConfusion hb10
    | (
     have hll : a.length = b.length := by omega
     refine nav ?_
     (refine aC_region ?_
       <;> refine xL 11 q_move ?_
       <;> refine xL 12 (q_len tSl23_LfS) ?_
       <;> refine xL 13 q_move ?_
       <;> refine aL_end (nav ?_) <;> try dsimp only)
     refine aC_loop (ι := { k : Nat // k ≤ a.length ∧ ∀ j x y, j < k → a[j]? = some x → b[j]? = some y → x = y }) (fun k => ⟨[(0, _, _), (1, _, _), (12, _, _), (13, .int .i64 k.1, pInt k.1)], []⟩) (fun k => a.length - k.1) ⟨0, by omega, by omega⟩ (fun a w H => H.weaken ⟨rfl, rfl, rfl, rfl, trivial⟩ trivial) ?_
     rintro ⟨k, hk, hp⟩
     dsimp only
     refine nav ?_
     (refine aC_region ?_
       <;> refine xL 14 q_lss ?_
       <;> refine aL_end (nav ?_) <;> try dsimp only)
     first | refine cCd (fun hb14 => ?_) (fun hb14 => ?_) | refine cC (fun hb14 => ?_) (fun hb14 => ?_)
     · first
       | exact Bool.noConfusion hb14
       | (
        obtain ⟨x, hx⟩ := get_some (show k < a.length by omega)
        obtain ⟨y, hy⟩ := get_some (show k < b.length by omega)
        have e1 := flat_drop cMv_len a k x hx
        have e2 := flat_fit cMv_len hx
        have e3 := flat_drop cMv_len b k y hy
        have e4 := flat_fit cMv_len hy
        refine nav ?_
        (refine aC_region ?_
          <;> refine xL 15 q_move ?_
          <;> refine xL 5 q_assign ?_
          <;> refine aL_end (nav ?_) <;> try dsimp only)
        (refine aC_draw (fun i => ([] : List Nat).elem i) [] (by kernel_rfl) ?_
          <;> refine xD 0 16 rfl q_move ?_
          <;> refine xD 1 17 rfl q_move ?_
          <;> refine xD 2 18 rfl (q_idxN tSl23_LfS) ?_
          <;> (refine yD 3 19 rfl (q_lda tAgg72_LfS) fun v19 hv19 => ?_; cases hv19)
          <;> refine xD 4 20 rfl q_move ?_
          <;> refine xE 5 21 rfl q_move ?_
          <;> refine xE 6 22 rfl (q_idxN tSl23_LfS) ?_
          <;> (refine yE 7 23 rfl (q_lda tAgg72_LfS) fun v23 hv23 => ?_; cases hv23)
          <;> refine xE 8 24 rfl ((q_neS (us := vMv x) (us' := vMv y) uMvS hMvS gMvS (eqMv_runG x y) rfl rfl)) ?_
          <;> refine aD_end (by kernel_rfl) (nav ?_)
          <;> try dsimp only)
        first | refine cCd (fun hb24 => ?_) (fun hb24 => ?_) | refine cC (fun hb24 => ?_) (fun hb24 => ?_)
        · first
          | exact Bool.noConfusion hb24
          | (
           refine nav ?_
           (refine aC_region ?_
             <;> refine xL 4 q_assign ?_
             <;> refine aL_end (nav ?_) <;> try dsimp only)
           refine ret_shr (Tryz.results54) rfl ?_
           rw [decide_eq_false (ne_at hx hy (by
             have h := hb24
             rw [eqM_dec] at h
             simpa using h))])
        · first
          | exact Bool.noConfusion hb24
          | (
           refine nav ?_
           (refine aC_region ?_
             <;> refine xL 25 q_add ?_
             <;> refine xL 13 q_move ?_
             <;> refine aL_end (nav ?_) <;> try dsimp only)
           refine aN_again (
             ⟨k + 1, lt_of_get hx, fun j x' y' hj hx' hy' => by
               by_cases e : j = k
               · subst e; rw [hx] at hx'; rw [hy] at hy'; cases hx'; cases hy'
                 have h := hb24
                 rw [eqM_dec] at h
                 simpa using h
               · exact hp j x' y' (by omega) hx' hy'⟩
             ) (by dsimp only; omega) ⟨rfl, rfl, rfl, rfl, trivial⟩ trivial))
     · first
       | exact Bool.noConfusion hb14
       | (
        refine nav ?_
        (refine aC_region ?_
          <;> refine xL 4 q_assign ?_
          <;> refine aL_end (nav ?_) <;> try dsimp only)
        refine ret_shr (Tryz.results54) rfl ?_
        rw [decide_eq_true (eq_end hll fun j x y hx hy => hp j x y (by have := lt_of_get hx; omega) hx hy)]))
theorem sEqualFuncInts_e (a b : List (List Int)) : AF Tryz.prog 55 [pIntss a, pIntss b, .fn 32 []] (· = pBool (decide (a = b))) := by
  refine AF.of_body 32 Tryz.func55 rfl Tryz.ntmps55 (Nat.le_of_ble_eq_true rfl) ?_
  intro w0 M0 vs hl hv
  obtain ⟨v0, v1, v2, rfl⟩ := len3 hl
  clear hl hv
  refine aC_slen 0 rfl fun hlen => ?_
  refine aC_slen 1 rfl fun hlen2 => ?_
  refine nav ?_
  (refine aC_region ?_
    <;> refine xL 6 q_assign ?_
    <;> refine aL_end (nav ?_) <;> try dsimp only)
  (refine aC_region ?_
    <;> refine xL 10 q_move ?_
    <;> refine xL 11 (q_len tSl28_LfS) ?_
    <;> refine xL 12 q_move ?_
    <;> refine xL 13 (q_len tSl28_LfS) ?_
    <;> refine xL 14 q_neq ?_
    <;> refine aL_end (nav ?_) <;> try dsimp only)
  first | refine cCd (fun hb14 => ?_) (fun hb14 => ?_) | refine cC (fun hb14 => ?_) (fun hb14 => ?_)
  · first
    | exact Bool.noConfusion hb14
    | (
     refine nav ?_
     (refine aC_region ?_
       <;> refine xL 6 q_assign ?_
       <;> refine aL_end (nav ?_) <;> try dsimp only)
     refine ret_shr (Tryz.results55) rfl ?_
     rw [decide_eq_false (fun e => by subst e; exact hb14 rfl)])
  · first
    | exact Bool.noConfusion hb14
    | (
     have hll : a.length = b.length := by omega
     refine nav ?_
     (refine aC_region ?_
       <;> refine xL 15 q_move ?_
       <;> refine xL 16 (q_len tSl28_LfS) ?_
       <;> refine xL 17 q_move ?_
       <;> refine aL_end (nav ?_) <;> try dsimp only)
     refine aC_loop (ι := { k : Nat // k ≤ a.length ∧ ∀ j x y, j < k → a[j]? = some x → b[j]? = some y → x = y }) (fun k => ⟨[(0, _, _), (1, _, _), (2, _, _), (15, _, _), (16, _, _), (17, .int .i64 k.1, pInt k.1)], []⟩) (fun k => a.length - k.1) ⟨0, by omega, by omega⟩ (fun a w H => H.weaken ⟨rfl, rfl, rfl, rfl, rfl, rfl, trivial⟩ trivial) ?_
     rintro ⟨k, hk, hp⟩
     dsimp only
     refine nav ?_
     (refine aC_region ?_
       <;> refine xL 18 q_lss ?_
       <;> refine aL_end (nav ?_) <;> try dsimp only)
     first | refine cCd (fun hb18 => ?_) (fun hb18 => ?_) | refine cC (fun hb18 => ?_) (fun hb18 => ?_)
     · first
       | exact Bool.noConfusion hb18
       | (
        obtain ⟨x, hx⟩ := get_some (show k < a.length by omega)
        obtain ⟨y, hy⟩ := get_some (show k < b.length by omega)
        have e1 := map_at (f := pInts) hx
        have e2 := map_at (f := pInts) hy
        refine nav ?_
        (refine aC_region ?_
          <;> refine xL 19 q_move ?_
          <;> refine xL 20 (q_idxN tSl28_LfS) ?_
          <;> (refine yL 21 (q_ld tNa22_LfS) fun v21 hv21 => ?_; cases hv21)
          <;> refine xL 7 q_assign ?_
          <;> refine xL 8 q_assign ?_
          <;> refine aL_end (nav ?_) <;> try dsimp only)
        (refine aC_region ?_
          <;> refine xL 22 q_move ?_
          <;> refine xL 23 q_move ?_
          <;> refine xL 24 (q_idxN tSl28_LfS) ?_
          <;> (refine yL 25 (q_ld tNa22_LfS) fun v25 hv25 => ?_; cases hv25)
          <;> refine xL 9 q_assign ?_
          <;> refine aL_end (nav ?_) <;> try dsimp only)
        (refine aC_region ?_
          <;> refine xL 26 q_move ?_
          <;> refine xL 27 q_move ?_
          <;> refine xL 28 q_move ?_
          <;> (refine cS 29 (callF (f := 32) (ps := []) rfl ⟨_, rfl⟩ (Tryz.call32) rfl (sEqualInt_e x y)) fun v29 hv29 => ?_; cases hv29)
          <;> refine xL 30 q_not ?_
          <;> refine aL_end (nav ?_) <;> try dsimp only)
        first | refine cCd (fun hb30 => ?_) (fun hb30 => ?_) | refine cC (fun hb30 => ?_) (fun hb30 => ?_)
        · first
          | exact Bool.noConfusion hb30
          | (
           refine nav ?_
           (refine aC_region ?_
             <;> refine xL 6 q_assign ?_
             <;> refine aL_end (nav ?_) <;> try dsimp only)
           refine ret_shr (Tryz.results55) rfl ?_
           rw [decide_eq_false (ne_at hx hy (by simpa using hb30))])
        · first
          | exact Bool.noConfusion hb30
          | (
           refine nav ?_
           (refine aC_region ?_
             <;> refine xL 31 q_add ?_
             <;> refine xL 17 q_move ?_
             <;> refine aL_end (nav ?_) <;> try dsimp only)
           refine aN_again (
             ⟨k + 1, lt_of_get hx, fun j x' y' hj hx' hy' => by
               by_cases e : j = k
               · subst e; rw [hx] at hx'; rw [hy] at hy'; cases hx'; cases hy'; simpa using hb30
               · exact hp j x' y' (by omega) hx' hy'⟩
             ) (by dsimp only; omega) ⟨rfl, rfl, rfl, rfl, rfl, rfl, trivial⟩ trivial))
     · first
       | exact Bool.noConfusion hb18
       | (
        refine nav ?_
        (refine aC_region ?_
          <;> refine xL 6 q_assign ?_
          <;> refine aL_end (nav ?_) <;> try dsimp only)
        refine ret_shr (Tryz.results55) rfl ?_
        rw [decide_eq_true (eq_end hll fun j x y hx hy => hp j x y (by have := lt_of_get hx; omega) hx hy)]))
end Go.Proofs.YtgigclnaicbiaaaGreatDoor

namespace Go.Proofs.YtgigclnaicbiaaaGreatDoor
open Go.RowKit Go.Cb Go.En
set_option linter.all false

def insI (x : Int) : List Int → List Int
  | [] => [x]
  | y :: l => if x ≤ y then x :: y :: l else y :: insI x l
def srtI : List Int → List Int
  | [] => []
  | x :: l => insI x (srtI l)
theorem insI_perm (x : Int) : ∀ l, (insI x l).Perm (x :: l)
  | [] => .refl _
  | y :: l => by
    unfold insI
    split
    · exact .refl _
    · exact ((insI_perm x l).cons y).trans (.swap _ _ _)
theorem srtI_perm : ∀ l, (srtI l).Perm l
  | [] => .refl _
  | x :: l => (insI_perm x _).trans ((srtI_perm l).cons x)
theorem insI_pw (x : Int) : ∀ l : List Int, l.Pairwise (· ≤ ·) → (insI x l).Pairwise (· ≤ ·)
  | [], _ => by simp [insI]
  | y :: l, h => by
    have h' := List.pairwise_cons.1 h
    unfold insI
    split
    · rename_i hxy
      refine List.pairwise_cons.2 ⟨fun z hz => ?_, h⟩
      rcases List.mem_cons.1 hz with rfl | hz
      · exact hxy
      · exact Int.le_trans hxy (h'.1 z hz)
    · rename_i hxy
      refine List.pairwise_cons.2 ⟨fun z hz => ?_, insI_pw x l h'.2⟩
      rcases List.mem_cons.1 ((insI_perm x l).mem_iff.1 hz) with rfl | hz
      · omega
      · exact h'.1 z hz
theorem srtI_pw : ∀ l, (srtI l).Pairwise (· ≤ ·)
  | [] => .nil
  | x :: l => insI_pw x _ (srtI_pw l)
theorem sorted_ext : ∀ {l m : List Int}, l.Pairwise (· ≤ ·) → m.Pairwise (· ≤ ·) → l.Perm m → l = m
  | [], [], _, _, _ => rfl
  | [], y :: m, _, _, h => by have := h.length_eq; simp at this
  | x :: l, [], _, _, h => by have := h.length_eq; simp at this
  | x :: l, y :: m, hl, hm, h => by
    have hl' := List.pairwise_cons.1 hl
    have hm' := List.pairwise_cons.1 hm
    have h1 : x ≤ y := by
      rcases List.mem_cons.1 (h.mem_iff.2 (List.mem_cons_self ..)) with e | e
      · omega
      · exact hl'.1 y e
    have h2 : y ≤ x := by
      rcases List.mem_cons.1 (h.mem_iff.1 (List.mem_cons_self ..)) with e | e
      · omega
      · exact hm'.1 x e
    obtain rfl : x = y := by omega
    rw [sorted_ext hl'.2 hm'.2 ((List.perm_cons x).1 h)]
def closI (a : Aut) (l : List Int) : List Int := srtI (clAt a l a.n.toNat)
theorem closI_eq (a : Aut) (l : List Int) : closL a l = closI a l := by
  unfold closL closI
  have h1 : ((clAt a l a.n.toNat).mergeSort fun x y => decide (x ≤ y)).Pairwise (fun x y => decide (x ≤ y) = true) := List.pairwise_mergeSort (fun a b c h1 h2 => by simp only [decide_eq_true_eq] at *; omega) (fun a b => by simp only [Bool.or_eq_true, decide_eq_true_eq]; omega) _
  exact sorted_ext (h1.imp fun h => by simpa using h) (srtI_pw _) ((List.mergeSort_perm _ _).trans (srtI_perm _).symm)
def kidI (a : Aut) (far : List Int) (n : Int) (p : Pf) (c : Nat) : List Pf := if (nearL (closI a (leads a c p.2)) far (n - 1)).length = 0 then [] else [(p.1 ++ [(c : Int)], nearL (closI a (leads a c p.2)) far (n - 1))]
def lvI (a : Aut) (far : List Int) (n : Nat) : Nat → List Pf
  | 0 => [([], nearL (closI a a.start) far n)]
  | k + 1 => (lvI a far n k).flatMap fun p => (List.range a.syms.toNat).flatMap (kidI a far ((n : Int) - k) p)
theorem lvI_eq (a : Aut) (n : Nat) : ∀ k, lvP a n k = lvI a (farL a) n k
  | 0 => by rw [lvP, lvI, closI_eq]
  | k + 1 => by
    rw [lvP, lvI, lvI_eq a n k]
    have : ∀ p, kidsP a ((n : Int) - k) p = (List.range a.syms.toNat).flatMap (kidI a (farL a) ((n : Int) - k) p) := fun p => by
      unfold kidsP
      have : kidP a ((n : Int) - k) p = kidI a (farL a) ((n : Int) - k) p := by
        funext c
        unfold kidP kidI nextL
        rw [closI_eq]
      rw [this]
    exact flatMap_ext fun p _ => this p
def sumI (a : Aut) (far : List Int) (n k : Nat) : List (List Int) := (List.range k).flatMap fun i => outP a (lvI a far n i)
theorem sumI_eq (a : Aut) (n k : Nat) : sumP a n k = sumI a (farL a) n k := by
  unfold sumP sumI
  simp only [lvI_eq]
def bigI (a : Aut) (far : List Int) (n : Nat) : Bool := (List.range (n + 1)).any (fun k => decide (2000 < (lvI a far n (k + 1)).length)) || decide (2000 < (sumI a far n (n + 1)).length)
theorem bigI_eq (a : Aut) (n : Nat) : bigP a n ↔ bigI a (farL a) n = true := by
  unfold bigP bigI
  rw [sumI_eq]
  simp only [Bool.or_eq_true, List.any_eq_true, List.mem_range, decide_eq_true_eq, lvI_eq]
  constructor
  · rintro (⟨k, h1, h2⟩ | h)
    · exact .inl ⟨k, by omega, h2⟩
    · exact .inr h
  · rintro (⟨k, h1, h2⟩ | h)
    · exact .inl ⟨k, by omega, h2⟩
    · exact .inr h
end Go.Proofs.YtgigclnaicbiaaaGreatDoor

namespace Go.Proofs.YtgigclnaicbiaaaGreatDoor
open Go.RowKit Go.Cb Go.En
set_option linter.all false

def subI (a : Aut) : Srch (List Int) (List Int) := ⟨id, 2000, a.syms.toNat, fun _ l s => closI a (leads a (s : Nat) l)⟩
theorem subI_eq (a : Aut) : subW a = subI a := by
  unfold subW subI
  congr 1
  funext _ l s
  unfold nextL
  rw [closI_eq]
theorem subT_of {a : Aut} {q : List (List Int) × List (List Nat)} (i : Nat) (h : (subI a).upto (closI a a.start) i = some q) (hl : q.1.length ≤ i) (hi : i ≤ 2000) : subT a = some ⟨a.syms.toNat, q.2, q.1.map (accB a)⟩ := by
  unfold subT
  rw [subI_eq, closI_eq, Srch.all_some h hl hi]; rfl
theorem redX_of {a : Aut} {q : List (List Int) × List (List Nat)} {A : Aut} (i : Nat) (h : (subI a).upto (closI a a.start) i = some q) (hl : q.1.length ≤ i) (hi : i ≤ 2000) (hA : leastT ⟨a.syms.toNat, q.2, q.1.map (accB a)⟩ = some A) : redX a = .ok A := by
  unfold redX
  rw [subT_of i h hl hi]
  dsimp only
  rw [hA]; rfl
theorem bothX_of {a b A B : Aut} {q : List ((Nat × Nat) × (Int × Int)) × List (List Nat)} (i : Nat) (ha : redX a = .ok A) (hb : redX b = .ok B) (h : (prodW A B).upto ((0, 0), (-1, -1)) i = some q) (hl : q.1.length ≤ i) (hi : i ≤ 2000) : bothX a b = .ok (A, B, q) := by
  unfold bothX
  rw [ha, hb]
  dsimp only
  rw [show prodQ A B = some q from Srch.all_some h hl hi]
theorem cmpX_of {a b A B : Aut} {q : List ((Nat × Nat) × (Int × Int)) × List (List Nat)} {op : Int} (hf : fitX a b = 0) (h : bothX a b = .ok (A, B, q)) : cmpX a b op = ((cmpR A B op q).1, (cmpR A B op q).2, 0) := by
  unfold cmpX
  rw [if_neg (fun h => h hf), h]
def ex07 : Aut := ⟨2, 2, [0], [1], [⟨0, 0, 0⟩, ⟨0, 0, 1⟩, ⟨0, 1, 1⟩]⟩
def ex07M : Aut := ⟨2, 2, [0], [1], [⟨0, 0, 0⟩, ⟨0, 1, 1⟩, ⟨1, 0, 0⟩, ⟨1, 1, 1⟩]⟩
theorem ex07_ok : autOk ex07 = true := by kernel_rfl
theorem ex07_sub : (subI ex07).upto (closI ex07 ex07.start) 2 = some ([[0], [0, 1]], [[0, 1], [0, 1]]) := by kernel_rfl
theorem ex07_min : leastT ⟨2, [[0, 1], [0, 1]], [false, true]⟩ = some ex07M := by kernel_rfl
theorem ex07_red : redX ex07 = .ok ex07M := redX_of 2 ex07_sub (by decide) (by decide) ex07_min
theorem ex07_minX : minX ex07 = .ok ex07M := by unfold minX; rw [ex07_ok, if_pos rfl, ex07_red]
theorem ex07_subM : (subI ex07M).upto (closI ex07M ex07M.start) 2 = some ([[0], [1]], [[0, 1], [0, 1]]) := by kernel_rfl
theorem ex07_redM : redX ex07M = .ok ex07M := redX_of 2 ex07_subM (by decide) (by decide) ex07_min
end Go.Proofs.YtgigclnaicbiaaaGreatDoor

namespace Go.Proofs.YtgigclnaicbiaaaGreatDoor
open Go.RowKit Go.Cb Go.En
set_option linter.all false
set_option maxRecDepth 100000

theorem tAgg25_LfT : AggT Tryz.prog 25 5 = true := by kernel_rfl
theorem tEl22_LfT : ElT Tryz.prog 22 3 1 8 (.int .i64 0) := ⟨Tryz.underlying22, by kernel_rfl, rfl, by decide⟩
theorem tEl23_LfT : ElT Tryz.prog 23 72 3 24 (.agg #[(.int .i64 0), (.int .i64 0), (.int .i64 0)]) := ⟨Tryz.underlying23, by kernel_rfl, rfl, by decide⟩
theorem tFl25_0_LfT : FldT Tryz.prog 25 0 0 = true := by kernel_rfl
theorem tFl25_1_LfT : FldT Tryz.prog 25 1 1 = true := by kernel_rfl
theorem tFl25_2_LfT : FldT Tryz.prog 25 2 2 = true := by kernel_rfl
theorem tFl25_3_LfT : FldT Tryz.prog 25 3 3 = true := by kernel_rfl
theorem tFl25_4_LfT : FldT Tryz.prog 25 4 4 = true := by kernel_rfl
theorem tNa22_LfT : NoAgg Tryz.prog 22 = true := by kernel_rfl
theorem tNa23_LfT : NoAgg Tryz.prog 23 = true := by kernel_rfl
theorem tNa3_LfT : NoAgg Tryz.prog 3 = true := by kernel_rfl
theorem tSl22_LfT : SlT Tryz.prog 22 3 1 = true := by kernel_rfl
theorem tSl23_LfT : SlT Tryz.prog 23 72 3 = true := by kernel_rfl
theorem tSl75_LfT : SlT Tryz.prog 75 25 5 = true := by kernel_rfl
theorem tSt25_LfT : stInfo Tryz.prog 25 = some ((.agg #[(.int .i64 0), (.int .i64 0), (.slice none 0 0), (.slice none 0 0), (.slice none 0 0)]), ([0, 1, 2, 3, 4] : List Nat).map fun o => (o, 1)) := by kernel_rfl
theorem tSt72_LfT : stInfo Tryz.prog 72 = some ((.agg #[(.int .i64 0), (.int .i64 0), (.int .i64 0)]), ([0, 1, 2] : List Nat).map fun o => (o, 1)) := by kernel_rfl
theorem tZr25_LfT : ZeroT Tryz.prog 25 (.agg #[(.int .i64 0), (.int .i64 0), (.slice none 0 0), (.slice none 0 0), (.slice none 0 0)]) := by unfold ZeroT; kernel_rfl

theorem aut_ext {a b : Aut} (h1 : a.n = b.n) (h2 : a.syms = b.syms) (h3 : a.start = b.start) (h4 : a.fin = b.fin) (h5 : a.moves = b.moves) : a = b := by
  cases a; cases b; simp_all
instance : DecidableEq Aut := fun a b => if h : a.n = b.n ∧ a.syms = b.syms ∧ a.start = b.start ∧ a.fin = b.fin ∧ a.moves = b.moves then .isTrue (aut_ext h.1 h.2.1 h.2.2.1 h.2.2.2.1 h.2.2.2.2) else .isFalse fun e => h (by subst e; exact ⟨rfl, rfl, rfl, rfl, rfl⟩)
def cAut (a : Aut) : List PV := [pInt a.n, pInt a.syms, pInts a.start, pInts a.fin, pMvs a.moves]
theorem cAut_len (a : Aut) : (cAut a).length = 5 := rfl
def greatA (a : Aut) : Bool := (decide (60 < a.n) && decide (a.n ≤ 2000)) || (decide (8 < a.syms) && decide (a.syms ≤ 40)) || decide (400 < (a.moves.length : Int)) || decide (80 < (a.start.length : Int)) || decide (80 < (a.fin.length : Int))
def longL (w : List Int) : Bool := (decide (60 < (w.length : Int)) && decide ((w.length : Int) ≤ 200)) || decide (300 < (w.length : Int))
theorem indexFuncAut_e (f : Nat) (caps : List PV) (p : Aut → Bool) (l : List Aut) (hc : ∀ args w, (callFunc f args).run Tryz.prog w = .ok (.enter f args) w) (hf : ∀ s ∈ l, AF Tryz.prog f (.agg (cAut s) :: caps) (· = pBool (p s))) : AF Tryz.prog 97 [.sl l.length (l.flatMap cAut), .fn f caps] (· = pInt (idx p l)) := by
  refine AF.of_body 19 Tryz.func97 rfl Tryz.ntmps97 (Nat.le_of_ble_eq_true rfl) ?_
  intro w0 M0 vs hl hv
  obtain ⟨v0, v1, rfl⟩ := len2 hl
  clear hl hv
  refine aC_slen 0 rfl fun hlen => ?_
  refine nav ?_
  (refine aC_region ?_
    <;> refine xL 4 q_assign ?_
    <;> refine aL_end (nav ?_) <;> try dsimp only)
  (refine aC_region ?_
    <;> refine xL 6 q_move ?_
    <;> refine xL 7 (q_len tSl75_LfT) ?_
    <;> refine xL 8 q_move ?_
    <;> refine aL_end (nav ?_) <;> try dsimp only)
  refine aC_loop (ι := { k : Nat // k ≤ l.length ∧ ∀ i y, i < k → l[i]? = some y → p y = false }) (fun k => ⟨[(0, _, _), (1, _, _), (7, _, _), (8, .int .i64 k.1, pInt k.1)], []⟩) (fun k => l.length - k.1) ⟨0, by omega, by omega⟩ (fun a w H => H.weaken ⟨rfl, rfl, rfl, rfl, trivial⟩ trivial) ?_
  rintro ⟨k, hk, hp⟩
  dsimp only
  refine nav ?_
  (refine aC_region ?_
    <;> refine xL 9 q_lss ?_
    <;> refine aL_end (nav ?_) <;> try dsimp only)
  first | refine cCd (fun hb9 => ?_) (fun hb9 => ?_) | refine cC (fun hb9 => ?_) (fun hb9 => ?_)
  · first
    | exact Bool.noConfusion hb9
    | (
     obtain ⟨x, hx⟩ := get_some (show k < l.length by omega)
     have e1 := flat_drop cAut_len l k x hx
     have e2 := flat_fit cAut_len hx
     refine nav ?_
     (refine aC_region ?_
       <;> refine xL 10 q_move ?_
       <;> refine xL 5 q_assign ?_
       <;> refine aL_end (nav ?_) <;> try dsimp only)
     (refine aC_region ?_
       <;> refine xL 11 q_move ?_
       <;> refine xL 12 q_move ?_
       <;> refine xL 13 q_move ?_
       <;> refine xL 14 (q_idxN tSl75_LfT) ?_
       <;> (refine yL 15 (q_lda tAgg25_LfT) fun v15 hv15 => ?_; cases hv15)
       <;> (refine cS 16 (callF (f := f) (ps := caps) rfl ⟨_, rfl⟩ hc rfl (hf x (List.mem_of_getElem? hx))) fun v16 hv16 => ?_; cases hv16)
       <;> refine aL_end (nav ?_) <;> try dsimp only)
     first | refine cCd (fun hb16 => ?_) (fun hb16 => ?_) | refine cC (fun hb16 => ?_) (fun hb16 => ?_)
     · first
       | exact Bool.noConfusion hb16
       | (
        refine nav ?_
        (refine aC_region ?_
          <;> refine xL 17 q_move ?_
          <;> refine xL 4 q_assign ?_
          <;> refine aL_end (nav ?_) <;> try dsimp only)
        refine ret_shr (Tryz.results97) rfl ?_
        rw [idx_here hp hx hb16])
     · first
       | exact Bool.noConfusion hb16
       | (
        refine nav ?_
        (refine aC_region ?_
          <;> refine xL 18 q_add ?_
          <;> refine xL 8 q_move ?_
          <;> refine aL_end (nav ?_) <;> try dsimp only)
        refine aN_again (
          ⟨k + 1, by omega, fun i y hi hy => by
            by_cases e : i = k
            · subst e; rw [hx] at hy; cases hy; exact hb16
            · exact hp i y (by omega) hy⟩
          ) (by dsimp only; omega) ⟨rfl, rfl, rfl, rfl, trivial⟩ trivial))
  · first
    | exact Bool.noConfusion hb9
    | (
     refine nav ?_
     (refine aC_region ?_
       <;> refine xL 4 q_assign ?_
       <;> refine aL_end (nav ?_) <;> try dsimp only)
     refine ret_shr (Tryz.results97) rfl ?_
     rw [idx_none fun i y hi hy => hp i y (by omega) hy])
theorem containsFuncAut_e (f : Nat) (caps : List PV) (p : Aut → Bool) (l : List Aut) (hc : ∀ args w, (callFunc f args).run Tryz.prog w = .ok (.enter f args) w) (hf : ∀ s ∈ l, AF Tryz.prog f (.agg (cAut s) :: caps) (· = pBool (p s))) : AF Tryz.prog 56 [.sl l.length (l.flatMap cAut), .fn f caps] (· = pBool (l.any p)) := by
  refine AF.of_body 9 Tryz.func56 rfl Tryz.ntmps56 (Nat.le_of_ble_eq_true rfl) ?_
  intro w0 M0 vs hl hv
  obtain ⟨v0, v1, rfl⟩ := len2 hl
  clear hl hv
  refine nav ?_
  (refine aC_region ?_
    <;> refine xL 4 q_assign ?_
    <;> refine aL_end (nav ?_) <;> try dsimp only)
  (refine aC_region ?_
    <;> refine xL 5 q_move ?_
    <;> refine xL 6 q_move ?_
    <;> (refine cS 7 (cA Tryz.call97 (indexFuncAut_e f caps p l hc hf)) fun v7 hv7 => ?_; cases hv7)
    <;> refine xL 8 q_geq ?_
    <;> refine xL 4 q_assign ?_
    <;> refine aL_end (nav ?_) <;> try dsimp only)
  refine ret_shr (Tryz.results56) rfl ?_
  rw [idx_any]
theorem great071_e (a : Aut) : AF Tryz.prog 57 [.agg (cAut a)] (· = pBool (greatA a)) := by
  refine AF.of_body 39 Tryz.func57 rfl Tryz.ntmps57 (Nat.le_of_ble_eq_true rfl) ?_
  intro w0 M0 vs hl hv
  obtain ⟨v0, rfl⟩ := len1 hl
  clear hl hv
  refine nav ?_
  (refine aC_region ?_
    <;> refine s_boxa 1 5 fun h1 => ?_
    <;> refine xL 2 q_assign ?_
    <;> refine aL_end (nav ?_) <;> try dsimp only)
  (refine aC_region ?_
    <;> refine xL 3 (q_fldo 1 tFl25_0_LfT) ?_
    <;> (refine yL 4 (q_ldo 1 tNa3_LfT) fun v4 hv4 => ?_; cases hv4)
    <;> refine xL 5 q_gtr ?_
    <;> refine xL 6 q_move ?_
    <;> (refine bLd 6 (fun hb6 => ?_) (fun hb6 => ?_) <;> (first | refine kL 7 ?_ | refine xL 7 (q_fldo 1 tFl25_0_LfT) ?_))
    <;> (first | refine kL 8 ?_ | (refine yL 8 (q_ldo 1 tNa3_LfT) fun v8 hv8 => ?_; cases hv8))
    <;> (first | refine kL 9 ?_ | refine xL 9 q_leq ?_)
    <;> refine xL 10 q_pick ?_
    <;> refine xL 11 q_move ?_
    <;> (first | refine xL 12 (q_fldo 1 tFl25_1_LfT) ?_ | (refine bLd 11 (fun hb11 => ?_) (fun hb11 => ?_) <;> (first | refine kL 12 ?_ | refine xL 12 (q_fldo 1 tFl25_1_LfT) ?_)))
    <;> (first | refine kL 13 ?_ | (refine yL 13 (q_ldo 1 tNa3_LfT) fun v13 hv13 => ?_; cases hv13))
    <;> (first | refine kL 14 ?_ | refine xL 14 q_gtr ?_)
    <;> (first | refine kL 15 ?_ | refine xL 15 q_move ?_)
    <;> (first | refine kL 16 ?_ | (refine bLd 15 (fun hb15 => ?_) (fun hb15 => ?_) <;> (first | refine kL 16 ?_ | refine xL 16 (q_fldo 1 tFl25_1_LfT) ?_)))
    <;> (first | refine kL 17 ?_ | (refine yL 17 (q_ldo 1 tNa3_LfT) fun v17 hv17 => ?_; cases hv17))
    <;> (first | refine kL 18 ?_ | refine xL 18 q_leq ?_)
    <;> (first | refine kL 19 ?_ | refine xL 19 q_pick ?_)
    <;> refine xL 20 q_pick ?_
    <;> refine xL 21 q_move ?_
    <;> (first | refine kL 22 ?_ | refine xL 22 (q_fldo 1 tFl25_4_LfT) ?_ | (refine bLd 21 (fun hb21 => ?_) (fun hb21 => ?_) <;> (first | refine kL 22 ?_ | refine xL 22 (q_fldo 1 tFl25_4_LfT) ?_)))
    <;> (first | refine kL 23 ?_ | (refine yL 23 (q_ldo 1 tNa23_LfT) fun v23 hv23 => ?_; cases hv23))
    <;> (first | refine kL 24 ?_ | refine xL 24 (q_len tSl23_LfT) ?_)
    <;> (first | refine kL 25 ?_ | refine xL 25 q_gtr ?_)
    <;> refine xL 26 q_pick ?_
    <;> refine xL 27 q_move ?_
    <;> (first | refine kL 28 ?_ | (refine bLd 27 (fun hb27 => ?_) (fun hb27 => ?_) <;> (first | refine kL 28 ?_ | refine xL 28 (q_fldo 1 tFl25_2_LfT) ?_)))
    <;> (first | refine kL 29 ?_ | (refine yL 29 (q_ldo 1 tNa22_LfT) fun v29 hv29 => ?_; cases hv29))
    <;> (first | refine kL 30 ?_ | refine xL 30 (q_len tSl22_LfT) ?_)
    <;> (first | refine kL 31 ?_ | refine xL 31 q_gtr ?_)
    <;> refine xL 32 q_pick ?_
    <;> refine xL 33 q_move ?_
    <;> (first | refine kL 34 ?_ | (refine bLd 33 (fun hb33 => ?_) (fun hb33 => ?_) <;> (first | refine kL 34 ?_ | refine xL 34 (q_fldo 1 tFl25_3_LfT) ?_)))
    <;> (first | refine kL 35 ?_ | (refine yL 35 (q_ldo 1 tNa22_LfT) fun v35 hv35 => ?_; cases hv35))
    <;> (first | refine kL 36 ?_ | refine xL 36 (q_len tSl22_LfT) ?_)
    <;> (first | refine kL 37 ?_ | refine xL 37 q_gtr ?_)
    <;> refine xL 38 q_pick ?_
    <;> refine xL 2 q_assign ?_
    <;> refine aL_end (nav ?_) <;> try dsimp only) <;> (
   refine ret_shr (Tryz.results57) rfl ?_
   refine congrArg pBool ?_
   unfold greatA
   clear w0 M0 v0 h1
   first | (simp_all; done) | (simp_all; omega))
theorem great07_e (l : List Aut) : AF Tryz.prog 14 [.sl l.length (l.flatMap cAut)] (· = pBool (l.any greatA)) := by
  refine AF.of_body 5 Tryz.func14 rfl Tryz.ntmps14 (Nat.le_of_ble_eq_true rfl) ?_
  intro w0 M0 vs hl hv
  obtain ⟨v0, rfl⟩ := len1 hl
  clear hl hv
  refine nav ?_
  (refine aC_region ?_
    <;> refine xL 2 q_assign ?_
    <;> refine aL_end (nav ?_) <;> try dsimp only)
  (refine aC_region ?_
    <;> refine xL 3 q_move ?_
    <;> (refine cS 4 (cA Tryz.call56 (containsFuncAut_e 57 [] greatA l (Tryz.call57) (fun a _ => great071_e a))) fun v4 hv4 => ?_; cases hv4)
    <;> refine xL 2 q_assign ?_
    <;> refine aL_end (nav ?_) <;> try dsimp only)
  exact ret_shr Tryz.results14 rfl rfl
theorem long07_e (w : List Int) : AF Tryz.prog 21 [pInts w] (· = pBool (longL w)) := by
  refine AF.of_body 16 Tryz.func21 rfl Tryz.ntmps21 (Nat.le_of_ble_eq_true rfl) ?_
  intro w0 M0 vs hl hv
  obtain ⟨v0, rfl⟩ := len1 hl
  clear hl hv
  refine nav ?_
  (refine aC_region ?_
    <;> refine xL 2 q_assign ?_
    <;> refine aL_end (nav ?_) <;> try dsimp only)
  (refine aC_region ?_
    <;> refine xL 3 q_move ?_
    <;> refine xL 4 (q_len tSl22_LfT) ?_
    <;> refine xL 5 q_gtr ?_
    <;> refine xL 6 q_move ?_
    <;> (refine bLd 6 (fun hb6 => ?_) (fun hb6 => ?_) <;> (first | refine kL 7 ?_ | refine xL 7 q_move ?_))
    <;> (first | refine kL 8 ?_ | refine xL 8 (q_len tSl22_LfT) ?_)
    <;> (first | refine kL 9 ?_ | refine xL 9 q_leq ?_)
    <;> refine xL 10 q_pick ?_
    <;> refine xL 11 q_move ?_
    <;> (first | refine xL 12 q_move ?_ | (refine bLd 11 (fun hb11 => ?_) (fun hb11 => ?_) <;> (first | refine kL 12 ?_ | refine xL 12 q_move ?_)))
    <;> (first | refine kL 13 ?_ | refine xL 13 (q_len tSl22_LfT) ?_)
    <;> (first | refine kL 14 ?_ | refine xL 14 q_gtr ?_)
    <;> refine xL 15 q_pick ?_
    <;> refine xL 2 q_assign ?_
    <;> refine aL_end (nav ?_) <;> try dsimp only) <;> (
   refine ret_shr (Tryz.results21) rfl ?_
   refine congrArg pBool ?_
   unfold longL
   clear w0 M0 v0
   first | (simp_all; done) | (simp_all; omega))
theorem ends07_e : AF Tryz.prog 53 [] (· = pAut ex07) := by
  refine AF.of_body 8 Tryz.func53 rfl Tryz.ntmps53 (Nat.le_of_ble_eq_true rfl) ?_
  intro w0 M0 vs hl hv
  obtain rfl := List.eq_nil_of_length_eq_zero hl
  clear hl hv
  refine nav ?_
  (refine aC_region ?_
    <;> refine s_alloc [(.int .i64 0), (.int .i64 0), (.slice none 0 0), (.slice none 0 0), (.slice none 0 0)] 5 0 tZr25_LfT fun h0 => ?_
    <;> refine aL_end (nav ?_) <;> try dsimp only)
  (refine aC_region ?_
    <;> (refine s_lit1 (kk := 1) 1 tEl22_LfT fun h1 ho1 => ?_; refine aL_ent (En.freeze (l := 1) (t := 1) rfl rfl) fun _ => ?_; refine aL_ent (reslot (t := 1) (p' := pInts [0]) rfl rfl) fun _ => ?_)
    <;> (refine s_lit1 (kk := 1) 2 tEl22_LfT fun h2 ho2 => ?_; refine aL_ent (En.freeze (l := 2) (t := 2) rfl rfl) fun _ => ?_; refine aL_ent (reslot (t := 2) (p' := pInts [1]) rfl rfl) fun _ => ?_)
    <;> refine xL 3 (q_build tSt72_LfT) ?_
    <;> refine xL 4 (q_build tSt72_LfT) ?_
    <;> refine xL 5 (q_build tSt72_LfT) ?_
    <;> (refine s_lita (kk := 3) (xs := [_, _, _]) (cs := [[_, _, _], [_, _, _], [_, _, _]]) 6 tEl23_LfT fun h6 ho6 => ?_; refine aL_ent (En.freeze (l := 6) (t := 6) rfl rfl) fun _ => ?_; refine aL_ent (reslot (t := 6) (p' := pMvs ex07.moves) rfl rfl) fun _ => ?_)
    <;> refine xL 7 (q_build tSt25_LfT) ?_
    <;> refine s_sta 0 tAgg25_LfT ?_
    <;> refine aL_end (nav ?_) <;> try dsimp only)
  exact ret_cell (k := 5) 0 (by kernel_rfl) (Tryz.results53) rfl rfl (Nat.le_of_ble_eq_true rfl) (by decide) rfl rfl
end Go.Proofs.YtgigclnaicbiaaaGreatDoor

namespace Go.Proofs.YtgigclnaicbiaaaGreatDoor
open Go.RowKit Go.Cb Go.En
set_option linter.all false

def ex07S : Aut := ⟨2, 2, [0], [0], [⟨0, 1, 0⟩, ⟨0, 0, 1⟩, ⟨1, 1, 0⟩, ⟨1, 0, 1⟩]⟩
theorem ex07_subS : (subI (mkA (starA ex07))).upto (closI (mkA (starA ex07)) (mkA (starA ex07)).start) 3 = some ([[0, 2], [0], [0, 1, 2]], [[1, 2], [1, 2], [1, 2]]) := by kernel_rfl
theorem ex07_minS : leastT ⟨2, [[1, 2], [1, 2], [1, 2]], [true, false, true]⟩ = some ex07S := by kernel_rfl
theorem ex07_redS : redX (mkA (starA ex07)) = .ok ex07S := redX_of 3 ex07_subS (by decide) (by decide) ex07_minS
theorem ex07_star : starX ex07 = .ok ex07S := by
  unfold starX madeX redL
  rw [ex07_ok, if_pos rfl, if_neg (by show ¬ (2000 < ((2 : Int) + 1) ∨ 20000 < (mkM (starA ex07).moves).length); rw [show (mkM (starA ex07).moves).length = 5 by kernel_rfl]; omega)]
  exact ex07_redS
theorem ex07_subS2 : (subI ex07S).upto (closI ex07S ex07S.start) 2 = some ([[0], [1]], [[1, 0], [1, 0]]) := by kernel_rfl
theorem ex07_minS2 : leastT ⟨2, [[1, 0], [1, 0]], [true, false]⟩ = some ex07S := by kernel_rfl
theorem ex07_redS2 : redX ex07S = .ok ex07S := redX_of 2 ex07_subS2 (by decide) (by decide) ex07_minS2
theorem ex07_prodS : (prodW ex07M ex07S).upto ((0, 0), (-1, -1)) 3 = some ([((0, 0), (-1, -1)), ((0, 1), (0, 0)), ((1, 0), (0, 1))], [[1, 2], [1, 2], [1, 2]]) := by kernel_rfl
theorem ex07_cmpS : cmpX ex07 ex07S 4 = (false, [], 0) := (cmpX_of (by kernel_rfl) (bothX_of 3 ex07_red ex07_redS2 ex07_prodS (by decide) (by decide))).trans (by kernel_rfl)
theorem ex07_prodM : (prodW ex07M ex07M).upto ((0, 0), (-1, -1)) 2 = some ([((0, 0), (-1, -1)), ((1, 1), (0, 1))], [[0, 1], [0, 1]]) := by kernel_rfl
theorem ex07_cmpM : cmpX ex07 ex07M 4 = (true, [], 0) := (cmpX_of (by kernel_rfl) (bothX_of 2 ex07_red ex07_redM ex07_prodM (by decide) (by decide))).trans (by kernel_rfl)
theorem ex07_far : farL ex07 = [1, 0] := by kernel_rfl
theorem ex07_big : bigI ex07 [1, 0] 2 = false := by kernel_rfl
theorem ex07_sum : sumI ex07 [1, 0] 2 3 = [[1], [0, 1], [1, 1]] := by kernel_rfl
end Go.Proofs.YtgigclnaicbiaaaGreatDoor
