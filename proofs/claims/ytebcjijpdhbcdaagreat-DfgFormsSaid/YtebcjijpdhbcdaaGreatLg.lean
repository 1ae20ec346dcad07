/-
  Walks: automata: comparing moves, which automata are valid.
  Walks: automata: which states are near; which accept.
  Walks: automata: the closure of states: what 'add' does.
-/
import Derived.Test.YtebcjijpdhbcdaaGreatLf
namespace Go.Proofs.YtebcjijpdhbcdaaGreat
open Go.RowKit Go.Cb Go.En
set_option linter.all false
set_option maxRecDepth 100000

theorem tAgg126_LdI : AggT Tryz.prog 126 3 = true := by kernel_rfl
theorem tEl63_LdI : ElT Tryz.prog 63 3 1 8 (.int .i64 0) := ⟨Tryz.underlying63, by kernel_rfl, rfl, by decide⟩
theorem tFl126_0_LdI : FldT Tryz.prog 126 0 0 = true := by kernel_rfl
theorem tFl126_1_LdI : FldT Tryz.prog 126 1 1 = true := by kernel_rfl
theorem tFl126_2_LdI : FldT Tryz.prog 126 2 2 = true := by kernel_rfl
theorem tFl66_0_LdI : FldT Tryz.prog 66 0 0 = true := by kernel_rfl
theorem tFl66_1_LdI : FldT Tryz.prog 66 1 1 = true := by kernel_rfl
theorem tFl66_2_LdI : FldT Tryz.prog 66 2 2 = true := by kernel_rfl
theorem tFl66_3_LdI : FldT Tryz.prog 66 3 3 = true := by kernel_rfl
theorem tFl66_4_LdI : FldT Tryz.prog 66 4 4 = true := by kernel_rfl
theorem tNa3_LdI : NoAgg Tryz.prog 3 = true := by kernel_rfl
theorem tNa63_LdI : NoAgg Tryz.prog 63 = true := by kernel_rfl
theorem tNa64_LdI : NoAgg Tryz.prog 64 = true := by kernel_rfl
theorem tSl63_LdI : SlT Tryz.prog 63 3 1 = true := by kernel_rfl
theorem tSl64_LdI : SlT Tryz.prog 64 126 3 = true := by kernel_rfl
theorem tZr126_LdI : ZeroT Tryz.prog 126 (.agg #[(.int .i64 0), (.int .i64 0), (.int .i64 0)]) := by unfold ZeroT; kernel_rfl

structure Mv where
  src : Int
  dst : Int
  sym : Int
structure Aut where
  n : Int
  syms : Int
  start : List Int
  fin : List Int
  moves : List Mv
def cMv (m : Mv) : List PV := [pInt m.src, pInt m.dst, pInt m.sym]
theorem cMv_len (m : Mv) : (cMv m).length = 3 := rfl
def pMvs (l : List Mv) : PV := .sl l.length (l.flatMap cMv)
def pAut (a : Aut) : PV := .agg [pInt a.n, pInt a.syms, pInts a.start, pInts a.fin, pMvs a.moves]
def cmpI (a b : Int) : Int := if a < b then -1 else if b < a then 1 else 0
def mvCmp (a b : Mv) : Int := firstNZ [cmpI a.src b.src, cmpI a.sym b.sym, cmpI a.dst b.dst]
def ltI (a b : Int) : Bool := decide (a < b)
def mvLt (a b : Mv) : Bool := decide (mvCmp a b < 0)
def stOk (n : Int) (l : List Int) : Bool := l.all (fun x => decide (0 ≤ x) && decide (x < n)) && chainB ltI l
def mvOk (a : Aut) (m : Mv) : Bool := decide (0 ≤ m.src) && decide (m.src < a.n) && decide (0 ≤ m.dst) && decide (m.dst < a.n) && decide (-1 ≤ m.sym) && decide (m.sym < a.syms)
def autOk (a : Aut) : Bool := decide (0 ≤ a.n) && decide (a.n ≤ 2000) && decide (0 ≤ a.syms) && decide (a.syms ≤ 40) && decide (a.moves.length ≤ 20000) && stOk a.n a.start && stOk a.n a.fin && a.moves.all (mvOk a) && chainB mvLt a.moves
theorem isNaNInt_g (s : Int) : AFg Tryz.prog 149 [pInt s] (· = pBool false) := by
  refine AFg.of_body 6 Tryz.func149 rfl Tryz.ntmps149 (Nat.le_of_ble_eq_true rfl) ?_
  intro w0 M0 vs hl hv
  obtain ⟨v0, rfl⟩ := len1 hl
  obtain rfl := hv 0 _ _ rfl rfl
  clear hl hv
  refine nav ?_
  (refine aC_region ?_
    <;> refine xL 2 q_assign ?_
    <;> refine aL_end (nav ?_) <;> try dsimp only)
  (refine aC_region ?_
    <;> refine xL 3 q_move ?_
    <;> refine xL 4 q_move ?_
    <;> refine xL 5 q_neq ?_
    <;> refine xL 2 q_assign ?_
    <;> refine aL_end (nav ?_) <;> try dsimp only)
  refine ret_shr (Tryz.results149) rfl ?_
  simp
theorem cmpInt_g (a b : Int) : AFg Tryz.prog 136 [pInt a, pInt b] (· = pInt (cmpI a b)) := by
  refine AFg.of_body 20 Tryz.func136 rfl Tryz.ntmps136 (Nat.le_of_ble_eq_true rfl) ?_
  intro w0 M0 vs hl hv
  obtain ⟨v0, v1, rfl⟩ := len2 hl
  obtain rfl := hv 0 _ _ rfl rfl
  obtain rfl := hv 1 _ _ rfl rfl
  clear hl hv
  refine nav ?_
  (refine aC_region ?_
    <;> refine xL 4 q_assign ?_
    <;> refine aL_end (nav ?_) <;> try dsimp only)
  (refine aC_region ?_
    <;> refine xL 7 q_move ?_
    <;> (refine cS 8 (cA Tryz.call149 (isNaNInt_g a)) fun v8 hv8 => ?_; cases hv8)
    <;> refine xL 5 q_assign ?_
    <;> refine aL_end (nav ?_) <;> try dsimp only)
  (refine aC_region ?_
    <;> refine xL 9 q_move ?_
    <;> (refine cS 10 (cA Tryz.call149 (isNaNInt_g b)) fun v10 hv10 => ?_; cases hv10)
    <;> refine xL 6 q_assign ?_
    <;> refine aL_end (nav ?_) <;> try dsimp only)
  (refine aC_region ?_
    <;> refine xL 11 q_move ?_
    <;> refine aL_end (nav ?_) <;> try dsimp only)
  refine cCf ?_
  refine nav ?_
  (refine aC_region ?_
    <;> refine xL 13 q_move ?_
    <;> refine aL_end (nav ?_) <;> try dsimp only)
  refine cCf ?_
  refine nav ?_
  (refine aC_region ?_
    <;> refine xL 14 q_move ?_
    <;> refine xL 15 q_move ?_
    <;> refine xL 16 q_lss ?_
    <;> refine aL_end (nav ?_) <;> try dsimp only)
  first | refine cCd (fun hb16 => ?_) (fun hb16 => ?_) | refine cC (fun hb16 => ?_) (fun hb16 => ?_)
  · first
    | exact Bool.noConfusion hb16
    | (
     refine nav ?_
     (refine aC_region ?_
       <;> refine xL 4 q_assign ?_
       <;> refine aL_end (nav ?_) <;> try dsimp only)
     refine ret_shr (Tryz.results136) rfl ?_
     rw [cmpI, if_pos hb16])
  · first
    | exact Bool.noConfusion hb16
    | (
     refine nav ?_
     (refine aC_region ?_
       <;> refine xL 17 q_move ?_
       <;> refine xL 18 q_move ?_
       <;> refine xL 19 q_gtr ?_
       <;> refine aL_end (nav ?_) <;> try dsimp only)
     first | refine cCd (fun hb19 => ?_) (fun hb19 => ?_) | refine cC (fun hb19 => ?_) (fun hb19 => ?_)
     · first
       | exact Bool.noConfusion hb19
       | (
        refine nav ?_
        (refine aC_region ?_
          <;> refine xL 4 q_assign ?_
          <;> refine aL_end (nav ?_) <;> try dsimp only)
        refine ret_shr (Tryz.results136) rfl ?_
        rw [cmpI, if_neg (by omega), if_pos (by omega)])
     · first
       | exact Bool.noConfusion hb19
       | (
        refine nav ?_
        (refine aC_region ?_
          <;> refine xL 4 q_assign ?_
          <;> refine aL_end (nav ?_) <;> try dsimp only)
        refine ret_shr (Tryz.results136) rfl ?_
        rw [cmpI, if_neg (by omega), if_neg (by omega)]))
theorem aCmpMoves_g (a b : Mv) : AFg Tryz.prog 114 [.agg (cMv a), .agg (cMv b)] (· = pInt (mvCmp a b)) := by
  refine AFg.of_body 22 Tryz.func114 rfl Tryz.ntmps114 (Nat.le_of_ble_eq_true rfl) ?_
  intro w0 M0 vs hl hv
  obtain ⟨v0, v1, rfl⟩ := len2 hl
  clear hl hv
  refine nav ?_
  (refine aC_region ?_
    <;> refine s_boxa 2 3 fun h2 => ?_
    <;> refine s_boxa 3 3 fun h3 => ?_
    <;> refine xL 4 q_assign ?_
    <;> refine aL_end (nav ?_) <;> try dsimp only)
  (refine aC_draw (fun i => ([] : List Nat).elem i) [2, 3] (by kernel_rfl) ?_
    <;> refine xD 0 5 rfl (q_fldo 2 tFl126_0_LdI) ?_
    <;> (refine yD 1 6 rfl (q_ldo 2 tNa3_LdI) fun v6 hv6 => ?_; cases hv6)
    <;> refine xD 2 7 rfl (q_fldo 3 tFl126_0_LdI) ?_
    <;> (refine yD 3 8 rfl (q_ldo 3 tNa3_LdI) fun v8 hv8 => ?_; cases hv8)
    <;> refine xD 5 10 rfl (q_fldo 2 tFl126_2_LdI) ?_
    <;> (refine yD 6 11 rfl (q_ldo 2 tNa3_LdI) fun v11 hv11 => ?_; cases hv11)
    <;> refine xD 7 12 rfl (q_fldo 3 tFl126_2_LdI) ?_
    <;> (refine yD 8 13 rfl (q_ldo 3 tNa3_LdI) fun v13 hv13 => ?_; cases hv13)
    <;> refine xD 10 15 rfl (q_fldo 2 tFl126_1_LdI) ?_
    <;> (refine yD 11 16 rfl (q_ldo 2 tNa3_LdI) fun v16 hv16 => ?_; cases hv16)
    <;> refine xD 12 17 rfl (q_fldo 3 tFl126_1_LdI) ?_
    <;> (refine yD 13 18 rfl (q_ldo 3 tNa3_LdI) fun v18 hv18 => ?_; cases hv18)
    <;> (refine aD_one 4 (by kernel_rfl) ?_)
    <;> (refine aW_run rfl fun w9 M9 N9 DQ back => ?_)
    <;> (refine cS 9 (cA Tryz.call136 (cmpInt_g a.src b.src)) fun v9 hv9 => ?_; cases hv9)
    <;> refine aL_end (back _ (nrm ?_))
    <;> (refine aD_one 9 (by kernel_rfl) ?_)
    <;> (refine aW_run rfl fun w9 M9 N9 DQ back => ?_)
    <;> (refine cS 14 (cA Tryz.call136 (cmpInt_g a.sym b.sym)) fun v14 hv14 => ?_; cases hv14)
    <;> refine aL_end (back _ (nrm ?_))
    <;> (refine aD_one 14 (by kernel_rfl) ?_)
    <;> (refine aW_run rfl fun w9 M9 N9 DQ back => ?_)
    <;> (refine cS 19 (cA Tryz.call136 (cmpInt_g a.dst b.dst)) fun v19 hv19 => ?_; cases hv19)
    <;> refine aL_end (back _ (nrm ?_))
    <;> (refine aD_one 15 (by kernel_rfl) ?_)
    <;> (refine aW_run rfl fun w9 M9 N9 DQ back => ?_)
    <;> refine s_litn (xs := [_, _, _]) 20 tEl63_LdI fun h20 ho20 => ?_
    <;> refine aL_end (back _ (nrm ?_))
    <;> (refine aD_one 16 (by kernel_rfl) ?_)
    <;> (refine aW_run rfl fun w9 M9 N9 DQ back => ?_)
    <;> (refine aL_ent (En.freeze (l := 20) (t := 20) rfl rfl) fun _ => ?_; refine cS 21 (cA Tryz.call100 (cmpOr_g [cmpI a.src b.src, cmpI a.sym b.sym, cmpI a.dst b.dst])) fun v21 hv21 => ?_; cases hv21)
    <;> refine aL_end (back _ (nrm ?_))
    <;> refine xE 17 4 rfl q_assign ?_
    <;> refine aD_end (by kernel_rfl) (nav ?_)
    <;> try dsimp only)
  exact ret_shr Tryz.results114 rfl rfl
theorem aStates_e (l : List Int) (n : Int) : AF Tryz.prog 113 [pInts l, pInt n] (· = pBool (stOk n l)) := by
  refine AF.of_body 35 Tryz.func113 rfl Tryz.ntmps113 (Nat.le_of_ble_eq_true rfl) ?_
  intro w0 M0 vs hl hv
  obtain ⟨v0, v1, rfl⟩ := len2 hl
  obtain rfl := hv 1 _ _ rfl rfl
  clear hl hv
  refine aC_slen 0 rfl fun hlen => ?_
  refine nav ?_
  (refine aC_region ?_
    <;> refine xL 4 q_assign ?_
    <;> refine aL_end (nav ?_) <;> try dsimp only)
  (refine aC_region ?_
    <;> refine xL 7 q_move ?_
    <;> refine xL 8 (q_len tSl63_LdI) ?_
    <;> refine xL 9 q_move ?_
    <;> refine aL_end (nav ?_) <;> try dsimp only)
  refine aC_loop (ι := { k : Nat // k ≤ l.length ∧ ∀ j x, j < k → l[j]? = some x → (0 ≤ x ∧ x < n) ∧ ∀ y, 1 ≤ j → l[j - 1]? = some y → ltI y x = true }) (fun k => ⟨[(0, _, _), (1, _, _), (7, _, _), (8, _, _), (9, .int .i64 k.1, pInt k.1)], []⟩) (fun k => l.length - k.1) ⟨0, by omega, by omega⟩ (fun a w H => H.weaken ⟨rfl, rfl, rfl, rfl, rfl, trivial⟩ trivial) ?_
  rintro ⟨k, hk, hp⟩
  dsimp only
  refine nav ?_
  (refine aC_region ?_
    <;> refine xL 10 q_lss ?_
    <;> refine aL_end (nav ?_) <;> try dsimp only)
  first | refine cCd (fun hb10 => ?_) (fun hb10 => ?_) | refine cC (fun hb10 => ?_) (fun hb10 => ?_)
  · first
    | exact Bool.noConfusion hb10
    | (
     obtain ⟨x, hx⟩ := get_some (show k < l.length by omega)
     obtain ⟨y, hy⟩ := get_some (show k - 1 < l.length by omega)
     have e1 := map_at (f := pInt) hx
     have e2 : (l.map pInt)[((k : Int) - 1).toNat * 1]? = some (pInt y) := by rw [show ((k : Int) - 1).toNat * 1 = k - 1 by omega]; exact (by rw [List.getElem?_map, hy]; rfl)
     refine nav ?_
     (refine aC_region ?_
       <;> refine xL 11 q_move ?_
       <;> refine xL 12 (q_idxN tSl63_LdI) ?_
       <;> (refine yL 13 (q_ld tNa3_LdI) fun v13 hv13 => ?_; cases hv13)
       <;> refine xL 5 q_assign ?_
       <;> refine xL 6 q_assign ?_
       <;> refine aL_end (nav ?_) <;> try dsimp only)
     (refine aC_region ?_
       <;> refine xL 14 q_move ?_
       <;> refine xL 15 q_lss ?_
       <;> refine xL 16 q_move ?_
       <;> (refine bLd 16 (fun hb16 => ?_) (fun hb16 => ?_) <;> (first | refine kL 17 ?_ | refine xL 17 q_move ?_))
       <;> (first | refine kL 18 ?_ | refine xL 18 q_move ?_)
       <;> (first | refine kL 19 ?_ | refine xL 19 q_geq ?_)
       <;> refine xL 20 q_pick ?_
       <;> refine xL 21 q_move ?_
       <;> (first | refine kL 22 ?_ | (refine bLd 21 (fun hb21 => ?_) (fun hb21 => ?_) <;> (first | refine kL 22 ?_ | refine xL 22 q_move ?_)))
       <;> (first | refine kL 23 ?_ | refine xL 23 q_gtr ?_)
       <;> (first | refine kL 24 ?_ | refine xL 24 q_move ?_)
       <;> (first | refine kL 25 ?_ | (refine bLd 24 (fun hb24 => ?_) (fun hb24 => ?_) <;> (first | refine kL 25 ?_ | refine xL 25 q_move ?_)))
       <;> (first | refine kL 26 ?_ | refine xL 26 q_move ?_)
       <;> (first | refine kL 27 ?_ | refine xL 27 q_sub ?_)
       <;> (first | refine kL 28 ?_ | refine xL 28 (q_idx tSl63_LdI) ?_)
       <;> (first | refine kL 29 ?_ | (refine yL 29 (q_ld tNa3_LdI) fun v29 hv29 => ?_; cases hv29))
       <;> (first | refine kL 30 ?_ | refine xL 30 q_move ?_)
       <;> (first | refine kL 31 ?_ | refine xL 31 q_geq ?_)
       <;> (first | refine kL 32 ?_ | refine xL 32 q_pick ?_)
       <;> refine xL 33 q_pick ?_
       <;> refine aL_end (nav ?_) <;> try dsimp only) <;> (
      first | refine cCd (fun hb33 => ?_) (fun hb33 => ?_) | refine cC (fun hb33 => ?_) (fun hb33 => ?_)
      · first
        | exact Bool.noConfusion hb33
        | (
         refine nav ?_
         (refine aC_region ?_
           <;> refine xL 4 q_assign ?_
           <;> refine aL_end (nav ?_) <;> try dsimp only)
         refine ret_shr (Tryz.results113) rfl ?_
         unfold stOk
         first
           | rw [all_stop hx (by simp; omega)]; rfl
           | rw [chainB_stop (by omega) hy hx (by unfold ltI; simpa using hb33), Bool.and_false])
      · first
        | exact Bool.noConfusion hb33
        | (
         refine nav ?_
         (refine aC_region ?_
           <;> refine xL 34 q_add ?_
           <;> refine xL 9 q_move ?_
           <;> refine aL_end (nav ?_) <;> try dsimp only)
         refine aN_again (
           ⟨k + 1, by omega, fun j z hj hz => by
             by_cases e : j = k
             · subst e; rw [hx] at hz; cases hz
               refine ⟨⟨by omega, by omega⟩, fun y' h1 hy' => ?_⟩
               rw [hy] at hy'; cases hy'
               unfold ltI
               first
                 | omega
                 | (simp; omega)
             · exact hp j z (by omega) hz⟩
           ) (by dsimp only; omega) ⟨rfl, rfl, rfl, rfl, rfl, trivial⟩ trivial)))
  · first
    | exact Bool.noConfusion hb10
    | (
     refine nav ?_
     (refine aC_region ?_
       <;> refine xL 4 q_assign ?_
       <;> refine aL_end (nav ?_) <;> try dsimp only)
     refine ret_shr (Tryz.results113) rfl ?_
     have h1 : l.all (fun x => decide (0 ≤ x) && decide (x < n)) = true := by
       rw [List.all_eq_true]
       intro z hz
       obtain ⟨j, hj, rfl⟩ := List.getElem_of_mem hz
       have h2 := (hp j _ (by omega) (List.getElem?_eq_getElem hj)).1
       simp [h2.1, h2.2]
     have h2 : chainB ltI l = true := chainB_end fun j x y h1 hy hx => (hp j x (by have := lt_of_get hx; omega) hx).2 y h1 hy
     unfold stOk
     rw [h1, h2]; rfl)
theorem aut_no {a : Aut} (h : a.n < 0 ∨ 2000 < a.n ∨ a.syms < 0 ∨ 40 < a.syms ∨ 20000 < a.moves.length ∨ stOk a.n a.start = false ∨ stOk a.n a.fin = false ∨ a.moves.all (mvOk a) = false ∨ chainB mvLt a.moves = false) : autOk a = false := by
  unfold autOk
  rcases h with h | h | h | h | h | h | h | h | h
  · rw [decide_eq_false (by omega : ¬ 0 ≤ a.n)]; simp
  · rw [decide_eq_false (by omega : ¬ a.n ≤ 2000)]; simp
  · rw [decide_eq_false (by omega : ¬ 0 ≤ a.syms)]; simp
  · rw [decide_eq_false (by omega : ¬ a.syms ≤ 40)]; simp
  · rw [decide_eq_false (by omega : ¬ a.moves.length ≤ 20000)]; simp
  · rw [h]; simp
  · rw [h]; simp
  · rw [h]; simp
  · rw [h]; simp
theorem aValid_e (a : Aut) : AF Tryz.prog 79 [pAut a] (· = pBool (autOk a)) := by
  refine AF.of_body 103 Tryz.func79 rfl Tryz.ntmps79 (Nat.le_of_ble_eq_true rfl) ?_
  intro w0 M0 vs hl hv
  obtain ⟨v0, rfl⟩ := len1 hl
  clear hl hv
  refine nav ?_
  (refine aC_region ?_
    <;> refine s_boxa 1 5 fun h1 => ?_
    <;> refine xL 2 q_assign ?_
    <;> refine aL_end (nav ?_) <;> try dsimp only)
  (refine aC_region ?_
    <;> refine xL 5 (q_fldo 1 tFl66_0_LdI) ?_
    <;> (refine yL 6 (q_ldo 1 tNa3_LdI) fun v6 hv6 => ?_; cases hv6)
    <;> refine xL 7 q_lss ?_
    <;> refine xL 8 q_move ?_
    <;> (refine bLd 8 (fun hb8 => ?_) (fun hb8 => ?_) <;> (first | refine kL 9 ?_ | refine xL 9 (q_fldo 1 tFl66_0_LdI) ?_))
    <;> (first | refine kL 10 ?_ | (refine yL 10 (q_ldo 1 tNa3_LdI) fun v10 hv10 => ?_; cases hv10))
    <;> (first | refine kL 11 ?_ | refine xL 11 q_gtr ?_)
    <;> refine xL 12 q_pick ?_
    <;> refine xL 13 q_move ?_
    <;> (first | refine kL 14 ?_ | (refine bLd 13 (fun hb13 => ?_) (fun hb13 => ?_) <;> (first | refine kL 14 ?_ | refine xL 14 (q_fldo 1 tFl66_1_LdI) ?_)))
    <;> (first | refine kL 15 ?_ | (refine yL 15 (q_ldo 1 tNa3_LdI) fun v15 hv15 => ?_; cases hv15))
    <;> (first | refine kL 16 ?_ | refine xL 16 q_lss ?_)
    <;> refine xL 17 q_pick ?_
    <;> refine xL 18 q_move ?_
    <;> (first | refine kL 19 ?_ | (refine bLd 18 (fun hb18 => ?_) (fun hb18 => ?_) <;> (first | refine kL 19 ?_ | refine xL 19 (q_fldo 1 tFl66_1_LdI) ?_)))
    <;> (first | refine kL 20 ?_ | (refine yL 20 (q_ldo 1 tNa3_LdI) fun v20 hv20 => ?_; cases hv20))
    <;> (first | refine kL 21 ?_ | refine xL 21 q_gtr ?_)
    <;> refine xL 22 q_pick ?_
    <;> refine xL 23 q_move ?_
    <;> (first | refine kL 24 ?_ | (refine bLd 23 (fun hb23 => ?_) (fun hb23 => ?_) <;> (first | refine kL 24 ?_ | refine xL 24 (q_fldo 1 tFl66_4_LdI) ?_)))
    <;> (first | refine kL 25 ?_ | (refine yL 25 (q_ldo 1 tNa64_LdI) fun v25 hv25 => ?_; cases hv25))
    <;> (first | refine kL 26 ?_ | refine xL 26 (q_len tSl64_LdI) ?_)
    <;> (first | refine kL 27 ?_ | refine xL 27 q_gtr ?_)
    <;> refine xL 28 q_pick ?_
    <;> refine xL 29 q_move ?_
    <;> (first | refine kL 30 ?_ | (refine bLd 29 (fun hb29 => ?_) (fun hb29 => ?_) <;> (first | refine kL 30 ?_ | refine xL 30 (q_fldo 1 tFl66_2_LdI) ?_)))
    <;> (first | refine kL 31 ?_ | (refine yL 31 (q_ldo 1 tNa63_LdI) fun v31 hv31 => ?_; cases hv31))
    <;> (first | refine kL 32 ?_ | refine xL 32 (q_fldo 1 tFl66_0_LdI) ?_)
    <;> (first | refine kL 33 ?_ | (refine yL 33 (q_ldo 1 tNa3_LdI) fun v33 hv33 => ?_; cases hv33))
    <;> (first | refine kL 34 ?_ | (refine cS 34 (cA Tryz.call113 (aStates_e a.start a.n)) fun v34 hv34 => ?_; cases hv34))
    <;> (first | refine kL 35 ?_ | refine xL 35 q_not ?_)
    <;> refine xL 36 q_pick ?_
    <;> refine xL 37 q_move ?_
    <;> (first | refine kL 38 ?_ | (refine bL 37 (fun hb37 => ?_) (fun hb37 => ?_) <;> (first | refine kL 38 ?_ | refine xL 38 (q_fldo 1 tFl66_3_LdI) ?_)))
    <;> (first | refine kL 39 ?_ | (refine yL 39 (q_ldo 1 tNa63_LdI) fun v39 hv39 => ?_; cases hv39))
    <;> (first | refine kL 40 ?_ | refine xL 40 (q_fldo 1 tFl66_0_LdI) ?_)
    <;> (first | refine kL 41 ?_ | (refine yL 41 (q_ldo 1 tNa3_LdI) fun v41 hv41 => ?_; cases hv41))
    <;> (first | refine kL 42 ?_ | (refine cS 42 (cA Tryz.call113 (aStates_e a.fin a.n)) fun v42 hv42 => ?_; cases hv42))
    <;> (first | refine kL 43 ?_ | refine xL 43 q_not ?_)
    <;> refine xL 44 q_pick ?_
    <;> refine aL_end (nav ?_) <;> try dsimp only) <;> (
   first | refine cCd (fun hb44 => ?_) (fun hb44 => ?_) | refine cC (fun hb44 => ?_) (fun hb44 => ?_)
   · first
     | exact Bool.noConfusion hb44
     | (
      refine nav ?_
      (refine aC_region ?_
        <;> refine xL 2 q_assign ?_
        <;> refine aL_end (nav ?_) <;> try dsimp only)
      refine ret_shr (Tryz.results79) rfl ?_
      first
        | (rw [aut_no (by omega)])
        | (rw [aut_no (.inr (.inr (.inr (.inr (.inr (.inl (by simpa using hb37)))))))])
        | (rw [aut_no (.inr (.inr (.inr (.inr (.inr (.inr (.inl (by simpa using hb44))))))))]))
   · first
     | exact Bool.noConfusion hb44
     | (
      refine nav ?_
      (refine aC_region ?_
        <;> refine xL 45 (q_fldo 1 tFl66_4_LdI) ?_
        <;> (refine yL 46 (q_ldo 1 tNa64_LdI) fun v46 hv46 => ?_; cases hv46)
        <;> refine xL 47 (q_len tSl64_LdI) ?_
        <;> refine xL 48 q_move ?_
        <;> refine aL_end (nav ?_) <;> try dsimp only)
      refine aC_loop (ι := { k : Nat // k ≤ a.moves.length ∧ ∀ j x, j < k → a.moves[j]? = some x → mvOk a x = true ∧ ∀ y, 1 ≤ j → a.moves[j - 1]? = some y → mvLt y x = true }) (fun k => ⟨[(1, _, _), (45, _, _), (46, _, _), (47, _, _), (48, .int .i64 k.1, pInt k.1)], [(1, _, _)]⟩) (fun k => a.moves.length - k.1) ⟨0, by omega, by omega⟩ (fun a w H => H.weaken ⟨rfl, rfl, rfl, rfl, rfl, trivial⟩ ⟨rfl, trivial⟩) ?_
      rintro ⟨k, hk, hp⟩
      dsimp only
      refine nav ?_
      (refine aC_region ?_
        <;> refine xL 49 q_lss ?_
        <;> refine aL_end (nav ?_) <;> try dsimp only)
      first | refine cCd (fun hb49 => ?_) (fun hb49 => ?_) | refine cC (fun hb49 => ?_) (fun hb49 => ?_)
      · first
        | exact Bool.noConfusion hb49
        | (
         obtain ⟨x, hx⟩ := get_some (show k < a.moves.length by omega)
         obtain ⟨y, hy⟩ := get_some (show k - 1 < a.moves.length by omega)
         have e1 := flat_drop cMv_len a.moves k x hx
         have e2 := flat_fit cMv_len hx
         have e3 : ((a.moves.flatMap cMv).drop (((k : Int) - 1).toNat * 3)).take 3 = cMv y := by rw [show ((k : Int) - 1).toNat * 3 = (k - 1) * 3 by omega]; exact flat_drop cMv_len a.moves (k - 1) y hy
         have e4 := flat_fit cMv_len hy
         refine nav ?_
         (refine aC_region ?_
           <;> refine xL 50 q_move ?_
           <;> refine xL 51 (q_idxN tSl64_LdI) ?_
           <;> (refine yL 52 (q_lda tAgg126_LdI) fun v52 hv52 => ?_; cases hv52)
           <;> refine s_alloc [(.int .i64 0), (.int .i64 0), (.int .i64 0)] 3 4 tZr126_LdI fun h4 => ?_
           <;> refine xL 3 q_assign ?_
           <;> refine s_sta 4 tAgg126_LdI ?_
           <;> refine aL_end (nav ?_) <;> try dsimp only)
         (refine aC_draw (fun i => ([] : List Nat).elem i) [1, 4] (by kernel_rfl) ?_
           <;> refine xE 0 53 rfl (q_fldo 4 tFl126_0_LdI) ?_
           <;> (refine yE 1 54 rfl (q_ldo 4 tNa3_LdI) fun v54 hv54 => ?_; cases hv54)
           <;> refine xE 2 55 rfl q_lss ?_
           <;> refine xE 3 56 rfl q_move ?_
           <;> (refine bDd 56 (fun hb56 => ?_) (fun hb56 => ?_) <;> (first | refine kD 4 57 rfl ?_ | refine xD 4 57 rfl (q_fldo 4 tFl126_0_LdI) ?_))
           <;> (first | refine kD 5 58 rfl ?_ | (refine yD 5 58 rfl (q_ldo 4 tNa3_LdI) fun v58 hv58 => ?_; cases hv58))
           <;> (first | refine kD 6 59 rfl ?_ | refine xD 6 59 rfl (q_fldo 1 tFl66_0_LdI) ?_)
           <;> (first | refine kD 7 60 rfl ?_ | (refine yD 7 60 rfl (q_ldo 1 tNa3_LdI) fun v60 hv60 => ?_; cases hv60))
           <;> (first | refine kD 8 61 rfl ?_ | refine xD 8 61 rfl q_geq ?_)
           <;> refine xE 9 62 rfl q_pick ?_
           <;> refine xE 10 63 rfl q_move ?_
           <;> (first | refine kD 11 64 rfl ?_ | (refine bDd 63 (fun hb63 => ?_) (fun hb63 => ?_) <;> (first | refine kD 11 64 rfl ?_ | refine xD 11 64 rfl (q_fldo 4 tFl126_1_LdI) ?_)))
           <;> (first | refine kD 12 65 rfl ?_ | (refine yD 12 65 rfl (q_ldo 4 tNa3_LdI) fun v65 hv65 => ?_; cases hv65))
           <;> (first | refine kD 13 66 rfl ?_ | refine xD 13 66 rfl q_lss ?_)
           <;> refine xE 14 67 rfl q_pick ?_
           <;> refine xE 15 68 rfl q_move ?_
           <;> (first | refine kD 16 69 rfl ?_ | (refine bDd 68 (fun hb68 => ?_) (fun hb68 => ?_) <;> (first | refine kD 16 69 rfl ?_ | refine xD 16 69 rfl (q_fldo 4 tFl126_1_LdI) ?_)))
           <;> (first | refine kD 17 70 rfl ?_ | (refine yD 17 70 rfl (q_ldo 4 tNa3_LdI) fun v70 hv70 => ?_; cases hv70))
           <;> (first | refine kD 18 71 rfl ?_ | refine xD 18 71 rfl (q_fldo 1 tFl66_0_LdI) ?_)
           <;> (first | refine kD 19 72 rfl ?_ | (refine yD 19 72 rfl (q_ldo 1 tNa3_LdI) fun v72 hv72 => ?_; cases hv72))
           <;> (first | refine kD 20 73 rfl ?_ | refine xD 20 73 rfl q_geq ?_)
           <;> refine xE 21 74 rfl q_pick ?_
           <;> refine xE 22 75 rfl q_move ?_
           <;> (first | refine kD 23 76 rfl ?_ | (refine bDd 75 (fun hb75 => ?_) (fun hb75 => ?_) <;> (first | refine kD 23 76 rfl ?_ | refine xD 23 76 rfl (q_fldo 4 tFl126_2_LdI) ?_)))
           <;> (first | refine kD 24 77 rfl ?_ | (refine yD 24 77 rfl (q_ldo 4 tNa3_LdI) fun v77 hv77 => ?_; cases hv77))
           <;> (first | refine kD 25 78 rfl ?_ | refine xD 25 78 rfl q_lss ?_)
           <;> refine xE 26 79 rfl q_pick ?_
           <;> refine xE 27 80 rfl q_move ?_
           <;> (first | refine kD 28 81 rfl ?_ | (refine bDd 80 (fun hb80 => ?_) (fun hb80 => ?_) <;> (first | refine kD 28 81 rfl ?_ | refine xD 28 81 rfl (q_fldo 4 tFl126_2_LdI) ?_)))
           <;> (first | refine kD 29 82 rfl ?_ | (refine yD 29 82 rfl (q_ldo 4 tNa3_LdI) fun v82 hv82 => ?_; cases hv82))
           <;> (first | refine kD 30 83 rfl ?_ | refine xD 30 83 rfl (q_fldo 1 tFl66_1_LdI) ?_)
           <;> (first | refine kD 31 84 rfl ?_ | (refine yD 31 84 rfl (q_ldo 1 tNa3_LdI) fun v84 hv84 => ?_; cases hv84))
           <;> (first | refine kD 32 85 rfl ?_ | refine xD 32 85 rfl q_geq ?_)
           <;> refine xE 33 86 rfl q_pick ?_
           <;> refine xE 34 87 rfl q_move ?_
           <;> (first | refine kD 35 88 rfl ?_ | (refine bDd 87 (fun hb87 => ?_) (fun hb87 => ?_) <;> (first | refine kD 35 88 rfl ?_ | refine xD 35 88 rfl q_move ?_)))
           <;> (first | refine kD 36 89 rfl ?_ | refine xD 36 89 rfl q_gtr ?_)
           <;> (first | refine kD 37 90 rfl ?_ | refine xD 37 90 rfl q_move ?_)
           <;> (first | refine kD 38 91 rfl ?_ | (refine bDd 90 (fun hb90 => ?_) (fun hb90 => ?_) <;> (first | refine kD 38 91 rfl ?_ | refine xD 38 91 rfl (q_fldo 1 tFl66_4_LdI) ?_)))
           <;> (first | refine kD 39 92 rfl ?_ | (refine yD 39 92 rfl (q_ldo 1 tNa64_LdI) fun v92 hv92 => ?_; cases hv92))
           <;> (first | refine kD 40 93 rfl ?_ | refine xD 40 93 rfl q_move ?_)
           <;> (first | refine kD 41 94 rfl ?_ | refine xD 41 94 rfl q_sub ?_)
           <;> (first | refine kD 42 95 rfl ?_ | refine xD 42 95 rfl (q_idx tSl64_LdI) ?_)
           <;> (first | refine kD 43 96 rfl ?_ | (refine yD 43 96 rfl (q_lda tAgg126_LdI) fun v96 hv96 => ?_; cases hv96))
           <;> (first | refine kD 44 97 rfl ?_ | (refine yD 44 97 rfl (q_ldao 4 tAgg126_LdI) fun v97 hv97 => ?_; cases hv97))
           <;> (refine aD_one 45 (by kernel_rfl) ?_)
           <;> (refine aW_run rfl fun w9 M9 N9 DQ back => ?_)
           <;> (first | refine kL 98 ?_ | (refine cS 98 (cA Tryz.call114 ((aCmpMoves_g y x).af)) fun v98 hv98 => ?_; cases hv98))
           <;> refine aL_end (back _ (nrm ?_))
           <;> (first | refine kD 46 99 rfl ?_ | refine xD 46 99 rfl q_geq ?_)
           <;> (first | refine kD 47 100 rfl ?_ | refine xD 47 100 rfl q_pick ?_)
           <;> refine xE 48 101 rfl q_pick ?_
           <;> refine aD_end (by kernel_rfl) (nav ?_)
           <;> try dsimp only) <;> (
          first | refine cCd (fun hb101 => ?_) (fun hb101 => ?_) | refine cC (fun hb101 => ?_) (fun hb101 => ?_)
          · first
            | exact Bool.noConfusion hb101
            | (
             refine nav ?_
             (refine aC_region ?_
               <;> refine xL 2 q_assign ?_
               <;> refine aL_end (nav ?_) <;> try dsimp only)
             refine ret_shr (Tryz.results79) rfl ?_
             first
               | rw [aut_no (.inr (.inr (.inr (.inr (.inr (.inr (.inr (.inl (all_stop hx (show mvOk a x = false by unfold mvOk; simp only [Bool.and_eq_false_iff, decide_eq_false_iff_not]; omega))))))))))]
               | rw [aut_no (.inr (.inr (.inr (.inr (.inr (.inr (.inr (.inr (chainB_stop (by omega) hy hx (show mvLt y x = false from decide_eq_false (by omega)))))))))))])
          · first
            | exact Bool.noConfusion hb101
            | (
             refine nav ?_
             (refine aC_region ?_
               <;> refine xL 102 q_add ?_
               <;> refine xL 48 q_move ?_
               <;> refine aL_end (nav ?_) <;> try dsimp only)
             refine aN_again (
               ⟨k + 1, by omega, fun j z hj hz => by
                 by_cases e : j = k
                 · subst e; rw [hx] at hz; cases hz
                   refine ⟨by unfold mvOk; simp only [Bool.and_eq_true, decide_eq_true_eq]; omega, fun y' h1 hy' => ?_⟩
                   rw [hy] at hy'; cases hy'
                   first | omega | exact decide_eq_true (by omega)
                 · exact hp j z (by omega) hz⟩
               ) (by dsimp only; omega) ⟨rfl, rfl, rfl, rfl, rfl, trivial⟩ ⟨rfl, trivial⟩)))
      · first
        | exact Bool.noConfusion hb49
        | (
         refine nav ?_
         (refine aC_region ?_
           <;> refine xL 2 q_assign ?_
           <;> refine aL_end (nav ?_) <;> try dsimp only)
         refine ret_shr (Tryz.results79) rfl ?_
         have h7 : a.moves.all (mvOk a) = true := all_end fun j x hj => (hp j x (by have := lt_of_get hj; omega) hj).1
         have h8 : chainB mvLt a.moves = true := chainB_end fun j x y h1 hy hx => (hp j x (by have := lt_of_get hx; omega) hx).2 y h1 hy
         have h1 : stOk a.n a.start = true := by simpa using hb37
         have h2 : stOk a.n a.fin = true := by simpa using hb44
         unfold autOk
         rw [h1, h2, h7, h8, decide_eq_true (by omega : 0 ≤ a.n), decide_eq_true (by omega : a.n ≤ 2000), decide_eq_true (by omega : 0 ≤ a.syms), decide_eq_true (by omega : a.syms ≤ 40), decide_eq_true (by omega : a.moves.length ≤ 20000)]; rfl)))
end Go.Proofs.YtebcjijpdhbcdaaGreat

namespace Go.Proofs.YtebcjijpdhbcdaaGreat
open Go.RowKit Go.Cb Go.En
set_option linter.all false
set_option maxRecDepth 100000

theorem tEl63_LdJ : ElT Tryz.prog 63 3 1 8 (.int .i64 0) := ⟨Tryz.underlying63, by kernel_rfl, rfl, by decide⟩
theorem tFl162_2_LdJ : FldT Tryz.prog 162 2 2 = true := by kernel_rfl
theorem tNa129_LdJ : NoAgg Tryz.prog 129 = true := by kernel_rfl
theorem tNa160_LdJ : NoAgg Tryz.prog 160 = true := by kernel_rfl
theorem tNa3_LdJ : NoAgg Tryz.prog 3 = true := by kernel_rfl
theorem tNa4_LdJ : NoAgg Tryz.prog 4 = true := by kernel_rfl
theorem tNa63_LdJ : NoAgg Tryz.prog 63 = true := by kernel_rfl
theorem tSl160_LdJ : SlT Tryz.prog 160 4 1 = true := by kernel_rfl
theorem tSl63_LdJ : SlT Tryz.prog 63 3 1 = true := by kernel_rfl
theorem tSz3_LdJ : (Tryz.prog.info? 3).map (·.size) = some 1 := by kernel_rfl

def cI (x : Int) : List PV := [pInt x]
theorem cI_len (x : Int) : (cI x).length = 1 := rfl
theorem map_cI (l : List Int) : l.map pInt = l.flatMap cI := by
  induction l with
  | nil => rfl
  | cons x l ih => rw [List.map_cons, List.flatMap_cons, ih]; rfl
theorem share_ints (e n : Nat) (l : List Int) (hn : n = l.length) : share (.own e 1 n (l.map pInt)) = pInts l := by
  subst hn
  rw [share, shares_eq, List.map_map]; rfl
theorem rowF_setI {p : Int → Bool} {l : List Int} {k : Nat} {x : Int} (hx : l[k]? = some x) (h : p x = false) : ((rowF p l k).map pInt).set (keptF p l k).length (pInt x) = (rowF p l (k + 1)).map pInt := by
  have h1 := rowF_set (f := cI) cI_len hx h
  rw [Nat.mul_one, ← map_cI, ← map_cI] at h1
  exact h1
theorem delInt_e (f : Nat) (caps : List PV) (p : Int → Bool) (l : List Int) (hl : l.length ≤ 1000000) (hv g : Value) (hc : ∀ args w, (callFunc f args).run Tryz.prog w = .ok (.enter f args) w) (hf : ∀ s ∈ l, AF Tryz.prog f (pInt s :: caps) (· = pBool (p s))) :
    AFh False Tryz.prog 129 [(0, hv, .val hv), (1, g, .fn f caps)] [(1000, hv, .own 3 1 l.length (l.map pInt))] (fun v q h => q = .val v ∧ h = [(1000, v, .own 3 1 (l.filter fun s => !p s).length ((l.filter fun s => !p s).map pInt))]) := by
  refine AFh.of_body 42 Tryz.func129 rfl Tryz.ntmps129 (Nat.le_of_ble_eq_true rfl) rfl ?_
  intro w0 M0 N0
  have hq := share_ints 3 l.length l rfl
  refine nav ?_
  (refine aC_region ?_
    <;> refine xL 4 q_assign ?_
    <;> refine aL_end (nav ?_) <;> try dsimp only)
  (refine aC_region ?_
    <;> refine xL 8 q_move ?_
    <;> refine xL 9 q_move ?_
    <;> (refine cS 10 (cB rfl Tryz.call115 (indexFuncInt_e f caps p l hc hf) ⟨⟨_, _, rfl, hq ▸ reads_own (l := 1000) rfl⟩, ⟨_, _, rfl, reads_slot (x := .tmp 9) rfl⟩, trivial⟩) fun v10 hv10 => ?_; cases hv10)
    <;> refine xL 5 q_assign ?_
    <;> refine aL_end (nav ?_) <;> try dsimp only)
  (refine aC_region ?_
    <;> refine xL 11 q_move ?_
    <;> refine xL 12 q_eql ?_
    <;> refine aL_end (nav ?_) <;> try dsimp only)
  first | refine cCd (fun hb12 => ?_) (fun hb12 => ?_) | refine cC (fun hb12 => ?_) (fun hb12 => ?_)
  · first
    | exact Bool.noConfusion hb12
    | (
     refine nav ?_
     (refine aC_region ?_
       <;> refine xL 13 q_move ?_
       <;> refine xL 4 q_assign ?_
       <;> refine aL_end (nav ?_) <;> try dsimp only)
     refine ret_h [(1000, hv, PV.own 3 1 l.length (l.map pInt))] (Tryz.results129) rfl ⟨rfl, trivial⟩ ⟨rfl, ?_⟩
     rw [List.filter_eq_self.2 fun s hs => ?_]
     rcases idx_nat (p := p) (l := l) with ⟨_, h⟩ | ⟨i0, x0, h, _⟩
     · rw [h s hs]; rfl
     · exfalso; omega)
  · first
    | exact Bool.noConfusion hb12
    | (
     obtain ⟨i0, x0, hi0, hx0, hp0, hn0⟩ := (idx_nat (p := p) (l := l)).resolve_left fun h => hb12 h.1
     have hlt0 := lt_of_get hx0
     have hk0 : keptF p l (i0 + 1) = l.take i0 := by rw [keptF_yes hx0 hp0, keptF_all hn0]
     rw [hi0]
     refine nav ?_
     (refine aC_region ?_
       <;> refine xL 14 q_move ?_
       <;> refine xL 15 q_add ?_
       <;> refine xL 6 q_assign ?_
       <;> refine aL_end (nav ?_) <;> try dsimp only)
     refine aC_loop (ι := { q : Nat × Nat × List PV // q.1 ≤ l.length ∧ q.2.1 = (keptF p l q.1).length ∧ q.2.2 = (rowF p l q.1).map pInt }) (fun k => ⟨[(0, _, _), (1, _, _), (5, .int .i64 k.1.2.1, pInt k.1.2.1), (6, .int .i64 k.1.1, pInt k.1.1)], [(1000, hv, .own 3 1 l.length k.1.2.2)]⟩) (fun k => l.length - k.1.1) ⟨(i0 + 1, i0, l.map pInt), hlt0, (by dsimp only; rw [hk0, List.length_take]; omega), (by dsimp only; unfold rowF; rw [hk0, List.length_take, Nat.min_eq_left (by omega), List.take_append_drop])⟩ (fun a w H => H.weaken ⟨rfl, rfl, rfl, rfl, trivial⟩ ⟨rfl, trivial⟩) ?_
     rintro ⟨⟨k, j, row⟩, hk, hj, hr⟩
     dsimp only
     dsimp only at hk hj hr
     have hle := keptF_le p l k
     have hjl : j ≤ l.length := by omega
     have hjl2 : (j : Int) ≤ 1000000 := by omega
     have hrl : row.length = l.length := by rw [hr, List.length_map, rowF_len p l hk]
     refine nav ?_
     (refine aC_region ?_
       <;> refine xL 16 q_move ?_
       <;> refine xL 17 q_move ?_
       <;> refine xL 18 (q_leno 1000 tSl63_LdJ) ?_
       <;> refine xL 19 q_lss ?_
       <;> refine aL_end (nav ?_) <;> try dsimp only)
     first | refine cCd (fun hb19 => ?_) (fun hb19 => ?_) | refine cC (fun hb19 => ?_) (fun hb19 => ?_)
     · first
       | exact Bool.noConfusion hb19
       | (
        obtain ⟨x, hx⟩ := get_some (show k < l.length by omega)
        have e1 : row[k * 1]? = some (pInt x) := by rw [hr, Nat.mul_one, List.getElem?_map, rowF_at hx]; rfl
        have e3 : j < row.length := by rw [hrl]; have := lt_of_get hx; omega
        refine nav ?_
        (refine aC_region ?_
          <;> refine xL 22 q_move ?_
          <;> refine xL 23 q_move ?_
          <;> refine xL 24 (q_idxoN 1000 tSl63_LdJ) ?_
          <;> (refine yL 25 (q_ldo 1000 tNa3_LdJ) fun v25 hv25 => ?_; cases hv25)
          <;> refine xL 7 q_assign ?_
          <;> refine aL_end (nav ?_) <;> try dsimp only)
        (refine aC_region ?_
          <;> refine xL 26 q_move ?_
          <;> refine xL 27 q_move ?_
          <;> (refine cS 28 (callF (f := f) (ps := caps) rfl ⟨_, rfl⟩ hc rfl (hf x (List.mem_of_getElem? hx))) fun v28 hv28 => ?_; cases hv28)
          <;> refine xL 29 q_not ?_
          <;> refine aL_end (nav ?_) <;> try dsimp only)
        first | refine cCd (fun hb29 => ?_) (fun hb29 => ?_) | refine cC (fun hb29 => ?_) (fun hb29 => ?_)
        · first
          | exact Bool.noConfusion hb29
          | (
           refine nav ?_
           (refine aC_region ?_
             <;> refine xL 30 q_move ?_
             <;> refine xL 31 q_move ?_
             <;> refine xL 32 q_move ?_
             <;> refine xL 33 (q_idxoN 1000 tSl63_LdJ) ?_
             <;> refine s_st 1000 tNa3_LdJ tSz3_LdJ ?_
             <;> refine aL_end (nav ?_) <;> try dsimp only)
           (refine aC_region ?_
             <;> refine xL 34 q_move ?_
             <;> refine xL 35 q_add ?_
             <;> refine xL 5 q_assign ?_
             <;> refine aL_end (nav ?_) <;> try dsimp only)
           (refine aC_region ?_
             <;> refine xL 20 q_move ?_
             <;> refine xL 21 q_add ?_
             <;> refine xL 6 q_assign ?_
             <;> refine aL_end (nav ?_) <;> try dsimp only)
           first
             | (exact aN_again (
                 ⟨(k + 1, j, row), lt_of_get hx, (by dsimp only; rw [keptF_yes hx (by simpa using hb29)]; exact hj), (by dsimp only; rw [hr]; unfold rowF; rw [keptF_yes hx (by simpa using hb29)])⟩
                 ) (by dsimp only; omega) ⟨rfl, rfl, rfl, rfl, trivial⟩ ⟨rfl, trivial⟩)
             | (exact aN_again (
                 ⟨(k + 1, j + 1, row.set (j * 1) (pInt x)), lt_of_get hx, (by show j + 1 = (keptF p l (k + 1)).length; rw [keptF_no hx (by simpa using hb29)]; simp [hj]), (by show row.set (j * 1) (pInt x) = (rowF p l (k + 1)).map pInt; rw [hr, hj, Nat.mul_one]; exact rowF_setI hx (by simpa using hb29))⟩
                 ) (by dsimp only; omega) ⟨rfl, rfl, rfl, rfl, trivial⟩ ⟨rfl, trivial⟩))
        · first
          | exact Bool.noConfusion hb29
          | (
           refine nav ?_
           (refine aC_region ?_
             <;> refine xL 20 q_move ?_
             <;> refine xL 21 q_add ?_
             <;> refine xL 6 q_assign ?_
             <;> refine aL_end (nav ?_) <;> try dsimp only)
           first
             | (exact aN_again (
                 ⟨(k + 1, j, row), lt_of_get hx, (by dsimp only; rw [keptF_yes hx (by simpa using hb29)]; exact hj), (by dsimp only; rw [hr]; unfold rowF; rw [keptF_yes hx (by simpa using hb29)])⟩
                 ) (by dsimp only; omega) ⟨rfl, rfl, rfl, rfl, trivial⟩ ⟨rfl, trivial⟩)
             | (exact aN_again (
                 ⟨(k + 1, j + 1, row.set (j * 1) (pInt x)), lt_of_get hx, (by show j + 1 = (keptF p l (k + 1)).length; rw [keptF_no hx (by simpa using hb29)]; simp [hj]), (by show row.set (j * 1) (pInt x) = (rowF p l (k + 1)).map pInt; rw [hr, hj, Nat.mul_one]; exact rowF_setI hx (by simpa using hb29))⟩
                 ) (by dsimp only; omega) ⟨rfl, rfl, rfl, rfl, trivial⟩ ⟨rfl, trivial⟩)))
     · first
       | exact Bool.noConfusion hb19
       | (
        have hkl : k = l.length := by omega
        refine nav ?_
        (refine aC_region ?_
          <;> refine xL 36 q_move ?_
          <;> refine xL 37 q_move ?_
          <;> refine xL 38 (y_slc_own (i := j) (j := l.length) 1000 tSl63_LdJ rfl rfl rfl rfl rfl hjl (Nat.le_refl _)) ?_
          <;> (refine aL_clear 1000 tEl63_LdJ (by decide) rfl rfl rfl rfl rfl hjl ?_; intro cs2 hcs1 hcs2)
          <;> refine aL_end (nav ?_) <;> try dsimp only)
        (refine aC_region ?_
          <;> refine xL 39 q_move ?_
          <;> refine xL 40 q_move ?_
          <;> refine xL 41 (y_slc_own (i := 0) (j := j) 1000 tSl63_LdJ rfl rfl rfl rfl rfl (Nat.zero_le _) hjl) ?_
          <;> refine xL 4 q_assign ?_
          <;> refine aL_end (nav ?_) <;> try dsimp only)
        refine aR_ent (trim (l := 1000) j rfl hjl) fun _ => ?_
        refine ret_h [(1000, slc hv 0 j 1, PV.own 3 1 j (cs2.take (j * 1)))] (Tryz.results129) rfl ⟨rfl, trivial⟩ ⟨rfl, ?_⟩
        have hF : (l.filter fun s => !p s) = keptF p l k := by unfold keptF; rw [hkl, List.take_length]
        rw [hcs2, hr, hF, ← hj]
        congr 4
        unfold rowF
        rw [List.map_append, Nat.mul_one, List.take_left' (by rw [List.length_map, hj])]))
theorem cloneIntW_e (l : List Int) (hl : l.length ≤ 1000000) : AF Tryz.prog 105 [pInts l] (· = .own 3 1 l.length (l.map pInt)) := by
  refine AF.of_body 8 Tryz.func105 rfl Tryz.ntmps105 (Nat.le_of_ble_eq_true rfl) ?_
  intro w0 M0 vs hl hv
  obtain ⟨v0, rfl⟩ := len1 hl
  clear hl hv
  have f3 : (l.map pInt).length = l.length * 1 := by rw [List.length_map, Nat.mul_one]
  have f4 : (l.map pInt).all En.one = true := by rw [List.all_map, List.all_eq_true]; intro x _; rfl
  refine nav ?_
  (refine aC_region ?_
    <;> refine xL 2 q_assign ?_
    <;> refine aL_end (nav ?_) <;> try dsimp only)
  (refine aC_region ?_
    <;> refine xL 3 q_move ?_
    <;> (refine yL 4 (q_eqnil tSl63_LdJ) fun v4 hv4 => ?_; rcases hv4 with rfl | ⟨rfl, hn0⟩)
    <;> refine aL_end (nav ?_) <;> try dsimp only) <;> (
   first | refine cCd (fun hb4 => ?_) (fun hb4 => ?_) | refine cC (fun hb4 => ?_) (fun hb4 => ?_)
   · first
     | exact Bool.noConfusion hb4
     | (
      refine nav ?_
      (refine aC_region ?_
        <;> refine xL 2 q_assign ?_
        <;> refine aL_end (nav ?_) <;> try dsimp only)
      have hl0 : l = [] := List.eq_nil_of_length_eq_zero hn0
      subst hl0
      refine aR_ent (nilOwn 200 3 1 rfl) fun _ => ?_
      exact ret_own 200 (Tryz.results105) rfl rfl rfl)
   · first
     | exact Bool.noConfusion hb4
     | (
      refine nav ?_
      (refine aC_region ?_
        <;> refine s_lit0 5 tEl63_LdJ fun h5 ho5 => ?_
        <;> refine xL 6 q_move ?_
        <;> refine s_apps 5 7 tEl63_LdJ (fun h7 ho7 => ?_) f3 f4
        <;> refine xL 2 q_assign ?_
        <;> refine aL_end (nav ?_) <;> try dsimp only)
      refine ret_own 7 (Tryz.results105) rfl rfl ?_
      rw [Nat.zero_add, List.nil_append]))
def farB (far : List Int) (n : Int) (s : Int) : Bool := match far[s.toNat]? with
  | some d => decide (d < 0) || decide (n < d)
  | none => false
def nearL (l far : List Int) (n : Int) : List Int := l.filter fun s => !farB far n s
theorem aNear1_e (far : List Int) (n s : Int) (h0 : 0 ≤ s) (h1 : s < far.length) : AF Tryz.prog 130 [pInt s, .sptr 0 [pInts far], .sptr 0 [pInt n]] (· = pBool (farB far n s)) := by
  refine AF.of_body 18 Tryz.func130 rfl Tryz.ntmps130 (Nat.le_of_ble_eq_true rfl) ?_
  intro w0 M0 vs hl hv
  obtain ⟨v0, v1, v2, rfl⟩ := len3 hl
  obtain rfl := hv 0 _ _ rfl rfl
  clear hl hv
  obtain ⟨d, hd⟩ := get_some (show s.toNat < far.length by omega)
  have e1 : (far.map pInt)[s.toNat * 1]? = some (pInt d) := by rw [Nat.mul_one, List.getElem?_map, hd]; rfl
  refine nav ?_
  (refine aC_region ?_
    <;> refine xL 4 q_assign ?_
    <;> refine aL_end (nav ?_) <;> try dsimp only)
  (refine aC_draw (fun i => ([] : List Nat).elem i) [] (by kernel_rfl) ?_
    <;> (refine yD 0 5 rfl (q_ld tNa63_LdJ) fun v5 hv5 => ?_; cases hv5)
    <;> refine xE 1 6 rfl q_move ?_
    <;> refine xE 2 7 rfl (q_idx tSl63_LdJ) ?_
    <;> (refine yE 3 8 rfl (q_ld tNa3_LdJ) fun v8 hv8 => ?_; cases hv8)
    <;> refine xE 4 9 rfl q_lss ?_
    <;> refine xE 5 10 rfl q_move ?_
    <;> (refine bDd 10 (fun hb10 => ?_) (fun hb10 => ?_) <;> (first | refine kD 6 11 rfl ?_ | (refine yD 6 11 rfl (q_ld tNa63_LdJ) fun v11 hv11 => ?_; cases hv11)))
    <;> (first | refine kD 7 12 rfl ?_ | refine xD 7 12 rfl q_move ?_)
    <;> (first | refine kD 8 13 rfl ?_ | refine xD 8 13 rfl (q_idx tSl63_LdJ) ?_)
    <;> (first | refine kD 9 14 rfl ?_ | (refine yD 9 14 rfl (q_ld tNa3_LdJ) fun v14 hv14 => ?_; cases hv14))
    <;> (first | refine kD 10 15 rfl ?_ | (refine yD 10 15 rfl (q_ld tNa3_LdJ) fun v15 hv15 => ?_; cases hv15))
    <;> (first | refine kD 11 16 rfl ?_ | refine xD 11 16 rfl q_gtr ?_)
    <;> refine xE 12 17 rfl q_pick ?_
    <;> refine xE 13 4 rfl q_assign ?_
    <;> refine aD_end (by kernel_rfl) (nav ?_)
    <;> try dsimp only) <;> (
   refine ret_shr (Tryz.results130) rfl ?_
   unfold farB
   rw [hd]
   show _ = pBool (decide (d < 0) || decide (n < d))
   first
     | (rw [decide_eq_true hb10]; rfl)
     | (rw [decide_eq_false hb10]; rfl))
theorem aNear_e (l far : List Int) (n : Int) (hl : l.length ≤ 1000000) (hs : ∀ s ∈ l, 0 ≤ s ∧ s < far.length) : AF Tryz.prog 104 [pInts l, pInts far, pInt n] (· = .own 3 1 (nearL l far n).length ((nearL l far n).map pInt)) := by
  refine AF.of_body 11 Tryz.func104 rfl Tryz.ntmps104 (Nat.le_of_ble_eq_true rfl) ?_
  intro w0 M0 vs hl hv
  obtain ⟨v0, v1, v2, rfl⟩ := len3 hl
  obtain rfl := hv 2 _ _ rfl rfl
  clear hl hv
  refine nav ?_
  (refine aC_region ?_
    <;> refine s_box 4 fun h4 => ?_
    <;> refine s_box 5 fun h5 => ?_
    <;> refine xL 6 q_assign ?_
    <;> refine aL_end (nav ?_) <;> try dsimp only)
  refine aC_ent (freezeP (l := 4) (t := 4) (j := 0) rfl Nat.one_pos rfl) fun _ => ?_
  refine aC_ent (freezeP (l := 5) (t := 5) (j := 0) rfl Nat.one_pos rfl) fun _ => ?_
  (refine aC_region ?_
    <;> refine xL 7 q_move ?_
    <;> refine cO 8 (cA Tryz.call105 (cloneIntW_e l hl)) fun v8 ho8 => ?_
    <;> refine xL 9 q_mkfn ?_
    <;> (refine aL_ent (relabel (l := 8) 1000 rfl rfl) fun _ => ?_; refine aL_heap [(1000, _, _)] ⟨rfl, trivial⟩ ?_; refine aL_ch [] 10 (Tryz.call129) (delInt_e 130 [.sptr 0 [pInts far], .sptr 0 [pInt n]] (farB far n) l hl v8 _ (Tryz.call130) (fun s hm => aNear1_e far n s (hs s hm).1 (hs s hm).2)) ?_; rintro v10 _ _ ⟨rfl, rfl⟩)
    <;> refine xL 6 q_assign ?_
    <;> refine aL_end (nav ?_) <;> try dsimp only)
  exact ret_own 1000 (Tryz.results104) rfl rfl rfl
def movesOf (a : Aut) (s : Nat) : List Mv := a.moves.filter fun m => decide (m.src = (s : Int))
def finB (a : Aut) (s : Int) : Bool := a.fin.any fun t => decide (t = s)
def grMoves (a : Aut) : PV := .sl a.n.toNat ((List.range a.n.toNat).map fun s => pMvs (movesOf a s))
def grFin (a : Aut) : PV := .sl a.n.toNat ((List.range a.n.toNat).map fun s => pBool (finB a (s : Nat)))
def pGr (a : Aut) : PV := .sptr 0 [pInt a.syms, grMoves a, grFin a]
theorem range_at {N k : Nat} (h : k < N) (f : Nat → PV) : ((List.range N).map f)[k]? = some (f k) := by
  rw [List.getElem?_map, List.getElem?_range h]; rfl
theorem aAccepts1_e (a : Aut) (s : Int) (h0 : 0 ≤ s) (h1 : s < a.n) : AF Tryz.prog 118 [pInt s, .sptr 0 [pGr a]] (· = pBool (finB a s)) := by
  refine AF.of_body 11 Tryz.func118 rfl Tryz.ntmps118 (Nat.le_of_ble_eq_true rfl) ?_
  intro w0 M0 vs hl hv
  obtain ⟨v0, v1, rfl⟩ := len2 hl
  obtain rfl := hv 0 _ _ rfl rfl
  clear hl hv
  have e1 : ((List.range a.n.toNat).map fun s => pBool (finB a (s : Nat)))[s.toNat * 1]? = some (pBool (finB a s)) := by rw [Nat.mul_one, range_at (by omega)]; rw [show ((s.toNat : Nat) : Int) = s by omega]
  have e2 : s.toNat < a.n.toNat := by omega
  refine nav ?_
  (refine aC_region ?_
    <;> refine xL 3 q_assign ?_
    <;> refine aL_end (nav ?_) <;> try dsimp only)
  (refine aC_region ?_
    <;> (refine yL 4 (q_ld tNa129_LdJ) fun v4 hv4 => ?_; cases hv4)
    <;> refine xL 5 q_nilp ?_
    <;> refine xL 6 (q_fld tFl162_2_LdJ) ?_
    <;> (refine yL 7 (q_ld tNa160_LdJ) fun v7 hv7 => ?_; cases hv7)
    <;> refine xL 8 q_move ?_
    <;> refine xL 9 (q_idx tSl160_LdJ) ?_
    <;> (refine yL 10 (q_ld tNa4_LdJ) fun v10 hv10 => ?_; cases hv10)
    <;> refine xL 3 q_assign ?_
    <;> refine aL_end (nav ?_) <;> try dsimp only)
  exact ret_shr Tryz.results118 rfl rfl
theorem aAccepts_e (a : Aut) (l : List Int) (hs : ∀ s ∈ l, 0 ≤ s ∧ s < a.n) : AF Tryz.prog 85 [pGr a, pInts l] (· = pBool (l.any (finB a))) := by
  refine AF.of_body 8 Tryz.func85 rfl Tryz.ntmps85 (Nat.le_of_ble_eq_true rfl) ?_
  intro w0 M0 vs hl hv
  obtain ⟨v0, v1, rfl⟩ := len2 hl
  clear hl hv
  refine nav ?_
  (refine aC_region ?_
    <;> refine s_box 2 fun h2 => ?_
    <;> refine xL 4 q_assign ?_
    <;> refine aL_end (nav ?_) <;> try dsimp only)
  refine aC_ent (freezeP (l := 2) (t := 2) (j := 0) rfl Nat.one_pos rfl) fun _ => ?_
  (refine aC_region ?_
    <;> refine xL 5 q_move ?_
    <;> refine xL 6 q_mkfn ?_
    <;> (refine cS 7 (cA Tryz.call80 (containsFuncInt_e 118 [.sptr 0 [pGr a]] (finB a) l (Tryz.call118) (fun s hm => aAccepts1_e a s (hs s hm).1 (hs s hm).2))) fun v7 hv7 => ?_; cases hv7)
    <;> refine xL 4 q_assign ?_
    <;> refine aL_end (nav ?_) <;> try dsimp only)
  exact ret_shr Tryz.results85 rfl rfl
end Go.Proofs.YtebcjijpdhbcdaaGreat

namespace Go.Proofs.YtebcjijpdhbcdaaGreat
open Go.RowKit Go.Cb Go.En
set_option linter.all false
set_option maxRecDepth 100000

theorem tEl63_LdK : ElT Tryz.prog 63 3 1 8 (.int .i64 0) := ⟨Tryz.underlying63, by kernel_rfl, rfl, by decide⟩
theorem tMp163_LdK : MpT Tryz.prog 163 3 4 (.int .i64) (.bool false) := ⟨Tryz.underlying163, Tryz.underlying3, .inr ⟨_, rfl⟩, by show ZeroT _ _ _; unfold ZeroT; kernel_rfl⟩
theorem tNa163_LdK : NoAgg Tryz.prog 163 = true := by kernel_rfl
theorem tNa63_LdK : NoAgg Tryz.prog 63 = true := by kernel_rfl
theorem tSz63_LdK : (Tryz.prog.info? 63).map (·.size) = some 1 := by kernel_rfl

def seenKV (out : List Int) : List (Int × Value) := out.map fun s => (s, .bool true)
theorem seen_get (out : List Int) (s : Int) : (mget (ikv (seenKV out)) (.int .i64 s)).getD (.bool false) = .bool (out.elem s) := by
  rw [mget_ikv]
  induction out with
  | nil => rfl
  | cons x l ih =>
    unfold seenKV at ih ⊢
    rw [List.map_cons, aget, List.elem_cons]
    by_cases h : s = x
    · subst h; simp
    · have h1 : (s == x) = false := by simpa using h
      rw [h1]
      simp [h, Ne.symm h]
      simpa using ih
theorem seen_put {out : List Int} {s : Int} (h : out.elem s = false) : mput (ikv (seenKV out)) (.int .i64 s) (.bool true) = ikv (seenKV (out ++ [s])) := by
  rw [mput_ikv]
  congr 1
  induction out with
  | nil => rfl
  | cons x l ih =>
    rw [List.elem_cons] at h
    have h1 : (s == x) = false := by cases h2 : (s == x) <;> simp_all
    have h2 : l.elem s = false := by simp_all
    have h3 : ¬ s = x := by simpa using h1
    unfold seenKV at ih ⊢
    rw [List.map_cons, aput]
    simp [h3, Ne.symm h3]
    simpa using ih h2
def addSt (out : List Int) (s : Int) : List Int := if out.elem s then out else out ++ [s]
def clH (h5 h6 m r : Value) (out : List Int) : List (Nat × Ent) := [(1001, h5, .own 163 1 1 [.val m]), (1002, h6, .own 63 1 1 [.val r]), (1003, m, .omap (ikv (seenKV out))), (1004, r, .own 3 1 out.length (out.map pInt))]
theorem aClosure1_e (s : Int) (h5 h6 m r : Value) (out : List Int) (hl : out.length ≤ 1000000) (hm : m.oneCell' = true) (hr : r.oneCell' = true) : AFh False Tryz.prog 116 [(0, .int .i64 s, pInt s), (1, padd (sbase h5) 0, .val (padd (sbase h5) 0)), (2, padd (sbase h6) 0, .val (padd (sbase h6) 0))]
    (clH h5 h6 m r out) (fun v q h => q = .val v ∧ ∃ r' : Value, r'.oneCell' = true ∧ h = clH h5 h6 m r' (addSt out s)) := by
  have hu := seen_get out s
  refine AFh.of_body 14 Tryz.func116 rfl Tryz.ntmps116 (Nat.le_of_ble_eq_true rfl) rfl ?_
  intro w0 M0 N0
  refine nav ?_
  (refine aC_region ?_
    <;> (refine yL 4 (q_ldo 1001 tNa163_LdK) fun v4 hv4 => ?_; cases hv4)
    <;> refine xL 5 q_move ?_
    <;> refine xL 6 (q_lookoE 1003 tMp163_LdK) ?_
    <;> refine xL 7 q_not ?_
    <;> refine aL_end (nav ?_) <;> try dsimp only)
  first | refine cCd (fun hb7 => ?_) (fun hb7 => ?_) | refine cC (fun hb7 => ?_) (fun hb7 => ?_)
  · first
    | exact Bool.noConfusion hb7
    | (
     have hn : out.elem s = false := by simpa using hb7
     have hp := seen_put hn
     refine nav ?_
     (refine aC_region ?_
       <;> (refine yL 8 (q_ldo 1001 tNa163_LdK) fun v8 hv8 => ?_; cases hv8)
       <;> refine xL 9 q_move ?_
       <;> (refine s_mput 1003 tMp163_LdK ?_; rw [hp])
       <;> refine aL_end (nav ?_) <;> try dsimp only)
     (refine aC_region ?_
       <;> (refine yL 10 (q_ldo 1002 tNa63_LdK) fun v10 hv10 => ?_; cases hv10)
       <;> refine xL 11 q_move ?_
       <;> refine s_lit1 (kk := 1) 12 tEl63_LdK fun h12 ho12 => ?_
       <;> refine s_app 1004 12 13 tEl63_LdK fun h13 ho13 => ?_
       <;> refine s_st 1002 tNa63_LdK tSz63_LdK ?_
       <;> refine aL_end (nav ?_) <;> try dsimp only)
     first
       | (refine aN_ent (relabel (l := 13) 1004 rfl rfl) fun _ => ?_
          refine end_h0 (clH h5 h6 m _ (out ++ [s])) (Tryz.results116) ⟨rfl, rfl, rfl, ?_, trivial⟩ ⟨rfl, _, ho13, ?_⟩
          · rw [List.map_append, List.length_append]; rfl
          · unfold addSt; rw [hn]; rfl)
       | (refine end_h0 (clH h5 h6 m r out) (Tryz.results116) ⟨rfl, rfl, rfl, rfl, trivial⟩ ⟨rfl, r, hr, ?_⟩
          unfold addSt; rw [if_pos (by simpa using hb7)]))
  · first
    | exact Bool.noConfusion hb7
    | (
     refine nav ?_
     first
       | (refine aN_ent (relabel (l := 13) 1004 rfl rfl) fun _ => ?_
          refine end_h0 (clH h5 h6 m _ (out ++ [s])) (Tryz.results116) ⟨rfl, rfl, rfl, ?_, trivial⟩ ⟨rfl, _, ho13, ?_⟩
          · rw [List.map_append, List.length_append]; rfl
          · unfold addSt; rw [hn]; rfl)
       | (refine end_h0 (clH h5 h6 m r out) (Tryz.results116) ⟨rfl, rfl, rfl, rfl, trivial⟩ ⟨rfl, r, hr, ?_⟩
          unfold addSt; rw [if_pos (by simpa using hb7)]))
end Go.Proofs.YtebcjijpdhbcdaaGreat
