/-
  Walks: the reference's automata: comparing moves, which are valid, sets of states.
-/
import Derived.Test.YtebcjijpdhbcdaaGreatLk
import Derived.Test.YtebcjijpdhbcdaaGreatLc
namespace Go.Proofs.YtebcjijpdhbcdaaGreat
open Go.RowKit Go.Cb Go.En
set_option linter.all false
set_option maxRecDepth 100000

theorem tAgg126_LdT : AggT Tryz.prog 126 3 = true := by kernel_rfl
theorem tEl63_LdT : ElT Tryz.prog 63 3 1 8 (.int .i64 0) := ⟨Tryz.underlying63, by kernel_rfl, rfl, by decide⟩
theorem tFl126_0_LdT : FldT Tryz.prog 126 0 0 = true := by kernel_rfl
theorem tFl126_1_LdT : FldT Tryz.prog 126 1 1 = true := by kernel_rfl
theorem tFl126_2_LdT : FldT Tryz.prog 126 2 2 = true := by kernel_rfl
theorem tFl66_0_LdT : FldT Tryz.prog 66 0 0 = true := by kernel_rfl
theorem tFl66_1_LdT : FldT Tryz.prog 66 1 1 = true := by kernel_rfl
theorem tFl66_2_LdT : FldT Tryz.prog 66 2 2 = true := by kernel_rfl
theorem tFl66_3_LdT : FldT Tryz.prog 66 3 3 = true := by kernel_rfl
theorem tFl66_4_LdT : FldT Tryz.prog 66 4 4 = true := by kernel_rfl
theorem tNa3_LdT : NoAgg Tryz.prog 3 = true := by kernel_rfl
theorem tNa4_LdT : NoAgg Tryz.prog 4 = true := by kernel_rfl
theorem tNa63_LdT : NoAgg Tryz.prog 63 = true := by kernel_rfl
theorem tNa64_LdT : NoAgg Tryz.prog 64 = true := by kernel_rfl
theorem tSl160_LdT : SlT Tryz.prog 160 4 1 = true := by kernel_rfl
theorem tSl63_LdT : SlT Tryz.prog 63 3 1 = true := by kernel_rfl
theorem tSl64_LdT : SlT Tryz.prog 64 126 3 = true := by kernel_rfl
theorem tZr126_LdT : ZeroT Tryz.prog 126 (.agg #[(.int .i64 0), (.int .i64 0), (.int .i64 0)]) := by unfold ZeroT; kernel_rfl

theorem mvLt_bool {a b : Mv} {x : Bool} (h : x = true ↔ mvLt a b = true) : pBool x = pBool (mvLt a b) := by rw [Bool.eq_iff_iff.2 h]
theorem r07before_e (a b : Mv) : AF Tryz.prog 131 [.agg (cMv a), .agg (cMv b)] (· = pBool (mvLt a b)) := by
  refine AF.of_body 30 Tryz.func131 rfl Tryz.ntmps131 (Nat.le_of_ble_eq_true rfl) ?_
  intro w0 M0 vs hl hv
  obtain ⟨v0, v1, rfl⟩ := len2 hl
  clear hl hv
  refine nav ?_
  (refine aC_region ?_
    <;> refine s_boxa 2 3 fun h2 => ?_
    <;> refine s_boxa 3 3 fun h3 => ?_
    <;> refine xL 4 q_assign ?_
    <;> refine aL_end (nav ?_) <;> try dsimp only)
  (refine aC_region ?_
    <;> refine xL 5 (q_fldo 2 tFl126_0_LdT) ?_
    <;> (refine yL 6 (q_ldo 2 tNa3_LdT) fun v6 hv6 => ?_; cases hv6)
    <;> refine xL 7 (q_fldo 3 tFl126_0_LdT) ?_
    <;> (refine yL 8 (q_ldo 3 tNa3_LdT) fun v8 hv8 => ?_; cases hv8)
    <;> refine xL 9 q_neq ?_
    <;> refine aL_end (nav ?_) <;> try dsimp only)
  first | refine cCd (fun hb9 => ?_) (fun hb9 => ?_) | refine cC (fun hb9 => ?_) (fun hb9 => ?_)
  · first
    | exact Bool.noConfusion hb9
    | (
     refine nav ?_
     (refine aC_region ?_
       <;> refine xL 10 (q_fldo 2 tFl126_0_LdT) ?_
       <;> (refine yL 11 (q_ldo 2 tNa3_LdT) fun v11 hv11 => ?_; cases hv11)
       <;> refine xL 12 (q_fldo 3 tFl126_0_LdT) ?_
       <;> (refine yL 13 (q_ldo 3 tNa3_LdT) fun v13 hv13 => ?_; cases hv13)
       <;> refine xL 14 q_lss ?_
       <;> refine xL 4 q_assign ?_
       <;> refine aL_end (nav ?_) <;> try dsimp only)
     refine ret_shr (Tryz.results131) rfl (mvLt_bool ?_)
     rw [mvLt_iff, decide_eq_true_eq]; omega)
  · first
    | exact Bool.noConfusion hb9
    | (
     refine nav ?_
     (refine aC_region ?_
       <;> refine xL 15 (q_fldo 2 tFl126_2_LdT) ?_
       <;> (refine yL 16 (q_ldo 2 tNa3_LdT) fun v16 hv16 => ?_; cases hv16)
       <;> refine xL 17 (q_fldo 3 tFl126_2_LdT) ?_
       <;> (refine yL 18 (q_ldo 3 tNa3_LdT) fun v18 hv18 => ?_; cases hv18)
       <;> refine xL 19 q_neq ?_
       <;> refine aL_end (nav ?_) <;> try dsimp only)
     first | refine cCd (fun hb19 => ?_) (fun hb19 => ?_) | refine cC (fun hb19 => ?_) (fun hb19 => ?_)
     · first
       | exact Bool.noConfusion hb19
       | (
        refine nav ?_
        (refine aC_region ?_
          <;> refine xL 20 (q_fldo 2 tFl126_2_LdT) ?_
          <;> (refine yL 21 (q_ldo 2 tNa3_LdT) fun v21 hv21 => ?_; cases hv21)
          <;> refine xL 22 (q_fldo 3 tFl126_2_LdT) ?_
          <;> (refine yL 23 (q_ldo 3 tNa3_LdT) fun v23 hv23 => ?_; cases hv23)
          <;> refine xL 24 q_lss ?_
          <;> refine xL 4 q_assign ?_
          <;> refine aL_end (nav ?_) <;> try dsimp only)
        refine ret_shr (Tryz.results131) rfl (mvLt_bool ?_)
        rw [mvLt_iff, decide_eq_true_eq]; omega)
     · first
       | exact Bool.noConfusion hb19
       | (
        refine nav ?_
        (refine aC_region ?_
          <;> refine xL 25 (q_fldo 2 tFl126_1_LdT) ?_
          <;> (refine yL 26 (q_ldo 2 tNa3_LdT) fun v26 hv26 => ?_; cases hv26)
          <;> refine xL 27 (q_fldo 3 tFl126_1_LdT) ?_
          <;> (refine yL 28 (q_ldo 3 tNa3_LdT) fun v28 hv28 => ?_; cases hv28)
          <;> refine xL 29 q_lss ?_
          <;> refine xL 4 q_assign ?_
          <;> refine aL_end (nav ?_) <;> try dsimp only)
        refine ret_shr (Tryz.results131) rfl (mvLt_bool ?_)
        rw [mvLt_iff, decide_eq_true_eq]; omega))
theorem r07ascending_e (l : List Int) (n : Int) : AF Tryz.prog 132 [pInts l, pInt n] (· = pBool (stOk n l)) := by
  refine AF.of_body 41 Tryz.func132 rfl Tryz.ntmps132 (Nat.le_of_ble_eq_true rfl) ?_
  intro w0 M0 vs hl hv
  obtain ⟨v0, v1, rfl⟩ := len2 hl
  obtain rfl := hv 1 _ _ rfl rfl
  clear hl hv
  refine aC_slen 0 rfl fun hlen => ?_
  refine nav ?_
  (refine aC_region ?_
    <;> refine xL 4 q_assign ?_
    <;> refine aL_end (nav ?_) <;> try dsimp only)
  (refine aC_region ?_
    <;> refine xL 5 q_assign ?_
    <;> refine aL_end (nav ?_) <;> try dsimp only)
  refine aC_loop (ι := { k : Nat // k ≤ l.length ∧ ∀ j x, j < k → l[j]? = some x → (0 ≤ x ∧ x < n) ∧ ∀ y, 1 ≤ j → l[j - 1]? = some y → ltI y x = true }) (fun k => ⟨[(0, _, _), (1, _, _), (5, .int .i64 k.1, pInt k.1)], []⟩) (fun k => l.length - k.1) ⟨0, by omega, by omega⟩ (fun a w H => H.weaken ⟨rfl, rfl, rfl, trivial⟩ trivial) ?_
  rintro ⟨k, hk, hp⟩
  dsimp only
  refine nav ?_
  (refine aC_region ?_
    <;> refine xL 6 q_move ?_
    <;> refine xL 7 q_move ?_
    <;> refine xL 8 (q_len tSl63_LdT) ?_
    <;> refine xL 9 q_lss ?_
    <;> refine aL_end (nav ?_) <;> try dsimp only)
  first | refine cCd (fun hb9 => ?_) (fun hb9 => ?_) | refine cC (fun hb9 => ?_) (fun hb9 => ?_)
  · first
    | exact Bool.noConfusion hb9
    | (
     obtain ⟨x, hx⟩ := get_some (show k < l.length by omega)
     obtain ⟨y, hy⟩ := get_some (show k - 1 < l.length by omega)
     have e1 := map_at (f := pInt) hx
     have e2 : (l.map pInt)[((k : Int) - 1).toNat * 1]? = some (pInt y) := by rw [show ((k : Int) - 1).toNat * 1 = k - 1 by omega]; exact (by rw [List.getElem?_map, hy]; rfl)
     refine nav ?_
     (refine aC_draw (fun i => ([] : List Nat).elem i) [] (by kernel_rfl) ?_
       <;> refine xD 0 12 rfl q_move ?_
       <;> refine xE 1 13 rfl q_move ?_
       <;> refine xE 2 14 rfl (q_idxN tSl63_LdT) ?_
       <;> (refine yE 3 15 rfl (q_ld tNa3_LdT) fun v15 hv15 => ?_; cases hv15)
       <;> refine xE 4 16 rfl q_lss ?_
       <;> refine xE 5 17 rfl q_move ?_
       <;> (refine bDd 17 (fun hb17 => ?_) (fun hb17 => ?_) <;> (first | refine kD 6 18 rfl ?_ | refine xD 6 18 rfl q_move ?_))
       <;> (first | refine kD 7 19 rfl ?_ | refine xD 7 19 rfl q_move ?_)
       <;> (first | refine kD 8 20 rfl ?_ | refine xD 8 20 rfl (q_idxN tSl63_LdT) ?_)
       <;> (first | refine kD 9 21 rfl ?_ | (refine yD 9 21 rfl (q_ld tNa3_LdT) fun v21 hv21 => ?_; cases hv21))
       <;> (first | refine kD 10 22 rfl ?_ | refine xD 10 22 rfl q_move ?_)
       <;> (first | refine kD 11 23 rfl ?_ | refine xD 11 23 rfl q_geq ?_)
       <;> refine xE 12 24 rfl q_pick ?_
       <;> refine xE 13 25 rfl q_move ?_
       <;> (first | refine kD 14 26 rfl ?_ | (refine bDd 25 (fun hb25 => ?_) (fun hb25 => ?_) <;> (first | refine kD 14 26 rfl ?_ | refine xD 14 26 rfl q_move ?_)))
       <;> (first | refine kD 15 27 rfl ?_ | refine xD 15 27 rfl q_gtr ?_)
       <;> (first | refine kD 16 28 rfl ?_ | refine xD 16 28 rfl q_move ?_)
       <;> (first | refine kD 17 29 rfl ?_ | (refine bDd 28 (fun hb28 => ?_) (fun hb28 => ?_) <;> (first | refine kD 17 29 rfl ?_ | refine xD 17 29 rfl q_move ?_)))
       <;> (first | refine kD 18 30 rfl ?_ | refine xD 18 30 rfl q_move ?_)
       <;> (first | refine kD 19 31 rfl ?_ | refine xD 19 31 rfl q_sub ?_)
       <;> (first | refine kD 20 32 rfl ?_ | refine xD 20 32 rfl (q_idx tSl63_LdT) ?_)
       <;> (first | refine kD 21 33 rfl ?_ | (refine yD 21 33 rfl (q_ld tNa3_LdT) fun v33 hv33 => ?_; cases hv33))
       <;> (first | refine kD 22 34 rfl ?_ | refine xD 22 34 rfl q_move ?_)
       <;> (first | refine kD 23 35 rfl ?_ | refine xD 23 35 rfl q_move ?_)
       <;> (first | refine kD 24 36 rfl ?_ | refine xD 24 36 rfl (q_idxN tSl63_LdT) ?_)
       <;> (first | refine kD 25 37 rfl ?_ | (refine yD 25 37 rfl (q_ld tNa3_LdT) fun v37 hv37 => ?_; cases hv37))
       <;> (first | refine kD 26 38 rfl ?_ | refine xD 26 38 rfl q_geq ?_)
       <;> (first | refine kD 27 39 rfl ?_ | refine xD 27 39 rfl q_pick ?_)
       <;> refine xE 28 40 rfl q_pick ?_
       <;> refine aD_end (by kernel_rfl) (nav ?_)
       <;> try dsimp only) <;> (
      first | refine cCd (fun hb40 => ?_) (fun hb40 => ?_) | refine cC (fun hb40 => ?_) (fun hb40 => ?_)
      · first
        | exact Bool.noConfusion hb40
        | (
         refine nav ?_
         (refine aC_region ?_
           <;> refine xL 4 q_assign ?_
           <;> refine aL_end (nav ?_) <;> try dsimp only)
         refine ret_shr (Tryz.results132) rfl ?_
         unfold stOk
         first
           | rw [all_stop hx (by simp; omega)]; rfl
           | rw [chainB_stop (by omega) hy hx (by unfold ltI; exact decide_eq_false (by omega)), Bool.and_false])
      · first
        | exact Bool.noConfusion hb40
        | (
         refine nav ?_
         (refine aC_region ?_
           <;> refine xL 10 q_move ?_
           <;> refine xL 11 q_add ?_
           <;> refine xL 5 q_assign ?_
           <;> refine aL_end (nav ?_) <;> try dsimp only)
         refine aN_again (
           ⟨k + 1, by omega, fun j z hj hz => by
             by_cases e : j = k
             · subst e; rw [hx] at hz; cases hz
               refine ⟨⟨by omega, by omega⟩, fun y' h1 hy' => ?_⟩
               rw [hy] at hy'; cases hy'
               unfold ltI
               first
                 | omega
                 | exact decide_eq_true (by omega)
             · exact hp j z (by omega) hz⟩
           ) (by dsimp only; omega) ⟨rfl, rfl, rfl, trivial⟩ trivial)))
  · first
    | exact Bool.noConfusion hb9
    | (
     refine nav ?_
     (refine aC_region ?_
       <;> refine xL 4 q_assign ?_
       <;> refine aL_end (nav ?_) <;> try dsimp only)
     refine ret_shr (Tryz.results132) rfl ?_
     have h1 : l.all (fun x => decide (0 ≤ x) && decide (x < n)) = true := by
       rw [List.all_eq_true]
       intro z hz
       obtain ⟨j, hj, rfl⟩ := List.getElem_of_mem hz
       have h2 := (hp j _ (by omega) (List.getElem?_eq_getElem hj)).1
       simp [h2.1, h2.2]
     have h2 : chainB ltI l = true := chainB_end fun j x y h1 hy hx => (hp j x (by have := lt_of_get hx; omega) hx).2 y h1 hy
     unfold stOk
     rw [h1, h2]; rfl)
theorem r07Valid_e (a : Aut) (hl : a.moves.length ≤ 1000000) : AF Tryz.prog 106 [pAut a] (· = pBool (autOk a)) := by
  refine AF.of_body 102 Tryz.func106 rfl Tryz.ntmps106 (Nat.le_of_ble_eq_true rfl) ?_
  intro w0 M0 vs hl hv
  obtain ⟨v0, rfl⟩ := len1 hl
  clear hl hv
  refine nav ?_
  (refine aC_region ?_
    <;> refine s_boxa 1 5 fun h1 => ?_
    <;> refine xL 2 q_assign ?_
    <;> refine aL_end (nav ?_) <;> try dsimp only)
  (refine aC_region ?_
    <;> refine xL 5 (q_fldo 1 tFl66_0_LdT) ?_
    <;> (refine yL 6 (q_ldo 1 tNa3_LdT) fun v6 hv6 => ?_; cases hv6)
    <;> refine xL 7 q_lss ?_
    <;> refine xL 8 q_move ?_
    <;> (refine bLd 8 (fun hb8 => ?_) (fun hb8 => ?_) <;> (first | refine kL 9 ?_ | refine xL 9 (q_fldo 1 tFl66_0_LdT) ?_))
    <;> (first | refine kL 10 ?_ | (refine yL 10 (q_ldo 1 tNa3_LdT) fun v10 hv10 => ?_; cases hv10))
    <;> (first | refine kL 11 ?_ | refine xL 11 q_gtr ?_)
    <;> refine xL 12 q_pick ?_
    <;> refine xL 13 q_move ?_
    <;> (first | refine kL 14 ?_ | (refine bLd 13 (fun hb13 => ?_) (fun hb13 => ?_) <;> (first | refine kL 14 ?_ | refine xL 14 (q_fldo 1 tFl66_1_LdT) ?_)))
    <;> (first | refine kL 15 ?_ | (refine yL 15 (q_ldo 1 tNa3_LdT) fun v15 hv15 => ?_; cases hv15))
    <;> (first | refine kL 16 ?_ | refine xL 16 q_lss ?_)
    <;> refine xL 17 q_pick ?_
    <;> refine xL 18 q_move ?_
    <;> (first | refine kL 19 ?_ | (refine bLd 18 (fun hb18 => ?_) (fun hb18 => ?_) <;> (first | refine kL 19 ?_ | refine xL 19 (q_fldo 1 tFl66_1_LdT) ?_)))
    <;> (first | refine kL 20 ?_ | (refine yL 20 (q_ldo 1 tNa3_LdT) fun v20 hv20 => ?_; cases hv20))
    <;> (first | refine kL 21 ?_ | refine xL 21 q_gtr ?_)
    <;> refine xL 22 q_pick ?_
    <;> refine xL 23 q_move ?_
    <;> (first | refine kL 24 ?_ | (refine bLd 23 (fun hb23 => ?_) (fun hb23 => ?_) <;> (first | refine kL 24 ?_ | refine xL 24 (q_fldo 1 tFl66_4_LdT) ?_)))
    <;> (first | refine kL 25 ?_ | (refine yL 25 (q_ldo 1 tNa64_LdT) fun v25 hv25 => ?_; cases hv25))
    <;> (first | refine kL 26 ?_ | refine xL 26 (q_len tSl64_LdT) ?_)
    <;> (first | refine kL 27 ?_ | refine xL 27 q_gtr ?_)
    <;> refine xL 28 q_pick ?_
    <;> refine aL_end (nav ?_) <;> try dsimp only) <;> (
   first | refine cCd (fun hb28 => ?_) (fun hb28 => ?_) | refine cC (fun hb28 => ?_) (fun hb28 => ?_)
   · first
     | exact Bool.noConfusion hb28
     | (
      refine nav ?_
      (refine aC_region ?_
        <;> refine xL 2 q_assign ?_
        <;> refine aL_end (nav ?_) <;> try dsimp only)
      refine ret_shr (Tryz.results106) rfl ?_
      rw [aut_no (by omega)])
   · first
     | exact Bool.noConfusion hb28
     | (
      refine nav ?_
      (refine aC_region ?_
        <;> refine xL 3 q_assign ?_
        <;> refine aL_end (nav ?_) <;> try dsimp only)
      refine aC_loop (ι := { k : Nat // k ≤ a.moves.length ∧ ∀ j x, j < k → a.moves[j]? = some x → mvOk a x = true ∧ ∀ y, 1 ≤ j → a.moves[j - 1]? = some y → mvLt y x = true }) (fun k => ⟨[(1, _, _), (3, .int .i64 k.1, pInt k.1)], [(1, _, _)]⟩) (fun k => a.moves.length - k.1) ⟨0, by omega, by omega⟩ (fun a w H => H.weaken ⟨rfl, rfl, trivial⟩ ⟨rfl, trivial⟩) ?_
      rintro ⟨k, hk, hp⟩
      dsimp only
      refine nav ?_
      (refine aC_region ?_
        <;> refine xL 29 q_move ?_
        <;> refine xL 30 (q_fldo 1 tFl66_4_LdT) ?_
        <;> (refine yL 31 (q_ldo 1 tNa64_LdT) fun v31 hv31 => ?_; cases hv31)
        <;> refine xL 32 (q_len tSl64_LdT) ?_
        <;> refine xL 33 q_lss ?_
        <;> refine aL_end (nav ?_) <;> try dsimp only)
      first | refine cCd (fun hb33 => ?_) (fun hb33 => ?_) | refine cC (fun hb33 => ?_) (fun hb33 => ?_)
      · first
        | exact Bool.noConfusion hb33
        | (
         obtain ⟨x, hx⟩ := get_some (show k < a.moves.length by omega)
         obtain ⟨y, hy⟩ := get_some (show k - 1 < a.moves.length by omega)
         have e1 := flat_drop cMv_len a.moves k x hx
         have e2 := flat_fit cMv_len hx
         have e3 : ((a.moves.flatMap cMv).drop (((k : Int) - 1).toNat * 3)).take 3 = cMv y := by rw [show ((k : Int) - 1).toNat * 3 = (k - 1) * 3 by omega]; exact flat_drop cMv_len a.moves (k - 1) y hy
         have e4 := flat_fit cMv_len hy
         refine nav ?_
         (refine aC_region ?_
           <;> refine xL 36 (q_fldo 1 tFl66_4_LdT) ?_
           <;> (refine yL 37 (q_ldo 1 tNa64_LdT) fun v37 hv37 => ?_; cases hv37)
           <;> refine xL 38 q_move ?_
           <;> refine xL 39 (q_idxN tSl64_LdT) ?_
           <;> (refine yL 40 (q_lda tAgg126_LdT) fun v40 hv40 => ?_; cases hv40)
           <;> refine s_alloc [(.int .i64 0), (.int .i64 0), (.int .i64 0)] 3 4 tZr126_LdT fun h4 => ?_
           <;> refine s_sta 4 tAgg126_LdT ?_
           <;> refine aL_end (nav ?_) <;> try dsimp only)
         (refine aC_draw (fun i => ([] : List Nat).elem i) [1, 4] (by kernel_rfl) ?_
           <;> refine xE 0 41 rfl (q_fldo 4 tFl126_0_LdT) ?_
           <;> (refine yE 1 42 rfl (q_ldo 4 tNa3_LdT) fun v42 hv42 => ?_; cases hv42)
           <;> refine xE 2 43 rfl q_lss ?_
           <;> refine xE 3 44 rfl q_move ?_
           <;> (refine bDd 44 (fun hb44 => ?_) (fun hb44 => ?_) <;> (first | refine kD 4 45 rfl ?_ | refine xD 4 45 rfl (q_fldo 4 tFl126_0_LdT) ?_))
           <;> (first | refine kD 5 46 rfl ?_ | (refine yD 5 46 rfl (q_ldo 4 tNa3_LdT) fun v46 hv46 => ?_; cases hv46))
           <;> (first | refine kD 6 47 rfl ?_ | refine xD 6 47 rfl (q_fldo 1 tFl66_0_LdT) ?_)
           <;> (first | refine kD 7 48 rfl ?_ | (refine yD 7 48 rfl (q_ldo 1 tNa3_LdT) fun v48 hv48 => ?_; cases hv48))
           <;> (first | refine kD 8 49 rfl ?_ | refine xD 8 49 rfl q_geq ?_)
           <;> refine xE 9 50 rfl q_pick ?_
           <;> refine xE 10 51 rfl q_move ?_
           <;> (first | refine kD 11 52 rfl ?_ | (refine bDd 51 (fun hb51 => ?_) (fun hb51 => ?_) <;> (first | refine kD 11 52 rfl ?_ | refine xD 11 52 rfl (q_fldo 4 tFl126_1_LdT) ?_)))
           <;> (first | refine kD 12 53 rfl ?_ | (refine yD 12 53 rfl (q_ldo 4 tNa3_LdT) fun v53 hv53 => ?_; cases hv53))
           <;> (first | refine kD 13 54 rfl ?_ | refine xD 13 54 rfl q_lss ?_)
           <;> refine xE 14 55 rfl q_pick ?_
           <;> refine xE 15 56 rfl q_move ?_
           <;> (first | refine kD 16 57 rfl ?_ | (refine bDd 56 (fun hb56 => ?_) (fun hb56 => ?_) <;> (first | refine kD 16 57 rfl ?_ | refine xD 16 57 rfl (q_fldo 4 tFl126_1_LdT) ?_)))
           <;> (first | refine kD 17 58 rfl ?_ | (refine yD 17 58 rfl (q_ldo 4 tNa3_LdT) fun v58 hv58 => ?_; cases hv58))
           <;> (first | refine kD 18 59 rfl ?_ | refine xD 18 59 rfl (q_fldo 1 tFl66_0_LdT) ?_)
           <;> (first | refine kD 19 60 rfl ?_ | (refine yD 19 60 rfl (q_ldo 1 tNa3_LdT) fun v60 hv60 => ?_; cases hv60))
           <;> (first | refine kD 20 61 rfl ?_ | refine xD 20 61 rfl q_geq ?_)
           <;> refine xE 21 62 rfl q_pick ?_
           <;> refine xE 22 63 rfl q_move ?_
           <;> (first | refine kD 23 64 rfl ?_ | (refine bDd 63 (fun hb63 => ?_) (fun hb63 => ?_) <;> (first | refine kD 23 64 rfl ?_ | refine xD 23 64 rfl (q_fldo 4 tFl126_2_LdT) ?_)))
           <;> (first | refine kD 24 65 rfl ?_ | (refine yD 24 65 rfl (q_ldo 4 tNa3_LdT) fun v65 hv65 => ?_; cases hv65))
           <;> (first | refine kD 25 66 rfl ?_ | refine xD 25 66 rfl q_lss ?_)
           <;> refine xE 26 67 rfl q_pick ?_
           <;> refine xE 27 68 rfl q_move ?_
           <;> (first | refine kD 28 69 rfl ?_ | (refine bDd 68 (fun hb68 => ?_) (fun hb68 => ?_) <;> (first | refine kD 28 69 rfl ?_ | refine xD 28 69 rfl (q_fldo 4 tFl126_2_LdT) ?_)))
           <;> (first | refine kD 29 70 rfl ?_ | (refine yD 29 70 rfl (q_ldo 4 tNa3_LdT) fun v70 hv70 => ?_; cases hv70))
           <;> (first | refine kD 30 71 rfl ?_ | refine xD 30 71 rfl (q_fldo 1 tFl66_1_LdT) ?_)
           <;> (first | refine kD 31 72 rfl ?_ | (refine yD 31 72 rfl (q_ldo 1 tNa3_LdT) fun v72 hv72 => ?_; cases hv72))
           <;> (first | refine kD 32 73 rfl ?_ | refine xD 32 73 rfl q_geq ?_)
           <;> refine xE 33 74 rfl q_pick ?_
           <;> refine xE 34 75 rfl q_move ?_
           <;> (first | refine kD 35 76 rfl ?_ | (refine bDd 75 (fun hb75 => ?_) (fun hb75 => ?_) <;> (first | refine kD 35 76 rfl ?_ | refine xD 35 76 rfl q_move ?_)))
           <;> (first | refine kD 36 77 rfl ?_ | refine xD 36 77 rfl q_gtr ?_)
           <;> (first | refine kD 37 78 rfl ?_ | refine xD 37 78 rfl q_move ?_)
           <;> (first | refine kD 38 79 rfl ?_ | (refine bDd 78 (fun hb78 => ?_) (fun hb78 => ?_) <;> (first | refine kD 38 79 rfl ?_ | refine xD 38 79 rfl (q_fldo 1 tFl66_4_LdT) ?_)))
           <;> (first | refine kD 39 80 rfl ?_ | (refine yD 39 80 rfl (q_ldo 1 tNa64_LdT) fun v80 hv80 => ?_; cases hv80))
           <;> (first | refine kD 40 81 rfl ?_ | refine xD 40 81 rfl q_move ?_)
           <;> (first | refine kD 41 82 rfl ?_ | refine xD 41 82 rfl q_sub ?_)
           <;> (first | refine kD 42 83 rfl ?_ | refine xD 42 83 rfl (q_idx tSl64_LdT) ?_)
           <;> (first | refine kD 43 84 rfl ?_ | (refine yD 43 84 rfl (q_lda tAgg126_LdT) fun v84 hv84 => ?_; cases hv84))
           <;> (first | refine kD 44 85 rfl ?_ | (refine yD 44 85 rfl (q_ldao 4 tAgg126_LdT) fun v85 hv85 => ?_; cases hv85))
           <;> (refine aD_one 45 (by kernel_rfl) ?_)
           <;> (refine aW_run rfl fun w9 M9 N9 DQ back => ?_)
           <;> (first | refine kL 86 ?_ | (refine cS 86 (cA Tryz.call131 (r07before_e y x)) fun v86 hv86 => ?_; cases hv86))
           <;> refine aL_end (back _ (nrm ?_))
           <;> (first | refine kD 46 87 rfl ?_ | refine xD 46 87 rfl q_not ?_)
           <;> (first | refine kD 47 88 rfl ?_ | refine xD 47 88 rfl q_pick ?_)
           <;> refine xE 48 89 rfl q_pick ?_
           <;> refine aD_end (by kernel_rfl) (nav ?_)
           <;> try dsimp only) <;> (
          first | refine cCd (fun hb89 => ?_) (fun hb89 => ?_) | refine cC (fun hb89 => ?_) (fun hb89 => ?_)
          · first
            | exact Bool.noConfusion hb89
            | (
             refine nav ?_
             (refine aC_region ?_
               <;> refine xL 2 q_assign ?_
               <;> refine aL_end (nav ?_) <;> try dsimp only)
             refine ret_shr (Tryz.results106) rfl ?_
             first
               | rw [aut_no (.inr (.inr (.inr (.inr (.inr (.inr (.inr (.inl (all_stop hx (show mvOk a x = false by unfold mvOk; simp only [Bool.and_eq_false_iff, decide_eq_false_iff_not]; omega))))))))))]
               | rw [aut_no (.inr (.inr (.inr (.inr (.inr (.inr (.inr (.inr (chainB_stop (by omega) hy hx (by simp_all))))))))))])
          · first
            | exact Bool.noConfusion hb89
            | (
             refine nav ?_
             (refine aC_region ?_
               <;> refine xL 34 q_move ?_
               <;> refine xL 35 q_add ?_
               <;> refine xL 3 q_assign ?_
               <;> refine aL_end (nav ?_) <;> try dsimp only)
             refine aN_again (
               ⟨k + 1, by omega, fun j z hj hz => by
                 by_cases e : j = k
                 · subst e; rw [hx] at hz; cases hz
                   refine ⟨by unfold mvOk; simp only [Bool.and_eq_true, decide_eq_true_eq]; omega, fun y' h1 hy' => ?_⟩
                   rw [hy] at hy'; cases hy'
                   first | omega | assumption | (simp_all)
                 · exact hp j z (by omega) hz⟩
               ) (by dsimp only; omega) ⟨rfl, rfl, trivial⟩ ⟨rfl, trivial⟩)))
      · first
        | exact Bool.noConfusion hb33
        | (
         refine nav ?_
         (refine aC_region ?_
           <;> refine xL 90 (q_fldo 1 tFl66_2_LdT) ?_
           <;> (refine yL 91 (q_ldo 1 tNa63_LdT) fun v91 hv91 => ?_; cases hv91)
           <;> refine xL 92 (q_fldo 1 tFl66_0_LdT) ?_
           <;> (refine yL 93 (q_ldo 1 tNa3_LdT) fun v93 hv93 => ?_; cases hv93)
           <;> (refine cS 94 (cA Tryz.call132 (r07ascending_e a.start a.n)) fun v94 hv94 => ?_; cases hv94)
           <;> refine xL 95 q_move ?_
           <;> (refine bL 95 (fun hb95 => ?_) (fun hb95 => ?_) <;> (first | refine kL 96 ?_ | refine xL 96 (q_fldo 1 tFl66_3_LdT) ?_))
           <;> (first | refine kL 97 ?_ | (refine yL 97 (q_ldo 1 tNa63_LdT) fun v97 hv97 => ?_; cases hv97))
           <;> (first | refine kL 98 ?_ | refine xL 98 (q_fldo 1 tFl66_0_LdT) ?_)
           <;> (first | refine kL 99 ?_ | (refine yL 99 (q_ldo 1 tNa3_LdT) fun v99 hv99 => ?_; cases hv99))
           <;> (first | refine kL 100 ?_ | (refine cS 100 (cA Tryz.call132 (r07ascending_e a.fin a.n)) fun v100 hv100 => ?_; cases hv100))
           <;> refine xL 101 q_pick ?_
           <;> refine xL 2 q_assign ?_
           <;> refine aL_end (nav ?_) <;> try dsimp only) <;> (
          refine ret_shr (Tryz.results106) rfl ?_
          have h7 : a.moves.all (mvOk a) = true := all_end fun j x hj => (hp j x (by have := lt_of_get hj; omega) hj).1
          have h8 : chainB mvLt a.moves = true := chainB_end fun j x y h1 hy hx => (hp j x (by have := lt_of_get hx; omega) hx).2 y h1 hy
          unfold autOk
          rw [h7, h8, decide_eq_true (by omega : 0 ≤ a.n), decide_eq_true (by omega : a.n ≤ 2000), decide_eq_true (by omega : 0 ≤ a.syms), decide_eq_true (by omega : a.syms ≤ 40), decide_eq_true (by omega : a.moves.length ≤ 20000)]
          first
            | (rw [hb95]; simp)
            | (simp_all)))))
def hasI (l : List Int) (n : Int) : Bool := l.any fun t => decide (t = n)
theorem hasI_iff {l : List Int} {n : Int} : hasI l n = true ↔ n ∈ l := by unfold hasI; simp
theorem r07has_e (l : List Int) (n : Int) : AF Tryz.prog 133 [pInts l, pInt n] (· = pBool (hasI l n)) := by
  refine AF.of_body 18 Tryz.func133 rfl Tryz.ntmps133 (Nat.le_of_ble_eq_true rfl) ?_
  intro w0 M0 vs hl hv
  obtain ⟨v0, v1, rfl⟩ := len2 hl
  obtain rfl := hv 1 _ _ rfl rfl
  clear hl hv
  refine aC_slen 0 rfl fun hlen => ?_
  refine nav ?_
  (refine aC_region ?_
    <;> refine xL 4 q_assign ?_
    <;> refine aL_end (nav ?_) <;> try dsimp only)
  (refine aC_region ?_
    <;> refine xL 5 q_assign ?_
    <;> refine aL_end (nav ?_) <;> try dsimp only)
  refine aC_loop (ι := { k : Nat // k ≤ l.length ∧ ∀ j x, j < k → l[j]? = some x → ¬ x = n }) (fun k => ⟨[(0, _, _), (1, _, _), (5, .int .i64 k.1, pInt k.1)], []⟩) (fun k => l.length - k.1) ⟨0, by omega, by omega⟩ (fun a w H => H.weaken ⟨rfl, rfl, rfl, trivial⟩ trivial) ?_
  rintro ⟨k, hk, hp⟩
  dsimp only
  refine nav ?_
  (refine aC_region ?_
    <;> refine xL 6 q_move ?_
    <;> refine xL 7 q_move ?_
    <;> refine xL 8 (q_len tSl63_LdT) ?_
    <;> refine xL 9 q_lss ?_
    <;> refine aL_end (nav ?_) <;> try dsimp only)
  first | refine cCd (fun hb9 => ?_) (fun hb9 => ?_) | refine cC (fun hb9 => ?_) (fun hb9 => ?_)
  · first
    | exact Bool.noConfusion hb9
    | (
     obtain ⟨x, hx⟩ := get_some (show k < l.length by omega)
     have e1 := map_at (f := pInt) hx
     refine nav ?_
     (refine aC_region ?_
       <;> refine xL 12 q_move ?_
       <;> refine xL 13 q_move ?_
       <;> refine xL 14 (q_idxN tSl63_LdT) ?_
       <;> (refine yL 15 (q_ld tNa3_LdT) fun v15 hv15 => ?_; cases hv15)
       <;> refine xL 16 q_move ?_
       <;> refine xL 17 q_eql ?_
       <;> refine aL_end (nav ?_) <;> try dsimp only)
     first | refine cCd (fun hb17 => ?_) (fun hb17 => ?_) | refine cC (fun hb17 => ?_) (fun hb17 => ?_)
     · first
       | exact Bool.noConfusion hb17
       | (
        refine nav ?_
        (refine aC_region ?_
          <;> refine xL 4 q_assign ?_
          <;> refine aL_end (nav ?_) <;> try dsimp only)
        refine ret_shr (Tryz.results133) rfl ?_
        rw [hasI_iff.2 (by have := List.mem_of_getElem? hx; rwa [show x = n by simpa using hb17] at this)])
     · first
       | exact Bool.noConfusion hb17
       | (
        refine nav ?_
        (refine aC_region ?_
          <;> refine xL 10 q_move ?_
          <;> refine xL 11 q_add ?_
          <;> refine xL 5 q_assign ?_
          <;> refine aL_end (nav ?_) <;> try dsimp only)
        refine aN_again (
          ⟨k + 1, by omega, fun j z hj hz => by
            by_cases e : j = k
            · subst e; rw [hx] at hz; cases hz; simpa using hb17
            · exact hp j z (by omega) hz⟩
          ) (by dsimp only; omega) ⟨rfl, rfl, rfl, trivial⟩ trivial))
  · first
    | exact Bool.noConfusion hb9
    | (
     refine nav ?_
     (refine aC_region ?_
       <;> refine xL 4 q_assign ?_
       <;> refine aL_end (nav ?_) <;> try dsimp only)
     refine ret_shr (Tryz.results133) rfl ?_
     rw [show hasI l n = false by
       cases hh : hasI l n with
       | false => rfl
       | true =>
         obtain ⟨j, hj⟩ := List.getElem?_of_mem (hasI_iff.1 hh)
         exact absurd rfl (hp j n (by have := lt_of_get hj; omega) hj)])
def listedL (n : Nat) (f : Nat → Bool) : List Int := ((List.range n).filter f).map fun i : Nat => (i : Int)
theorem listedL_snoc (k : Nat) (f : Nat → Bool) : listedL (k + 1) f = listedL k f ++ (if f k then [(k : Int)] else []) := by
  unfold listedL
  rw [List.range_succ, List.filter_append, List.map_append]
  congr 1
  cases h : f k <;> simp [h]
theorem listedL_len (n : Nat) (f : Nat → Bool) : (listedL n f).length ≤ n := by
  unfold listedL
  rw [List.length_map]
  have := List.length_filter_le f (List.range n)
  simpa using this
theorem listedL_mem {n : Nat} {f : Nat → Bool} {t : Int} : t ∈ listedL n f ↔ 0 ≤ t ∧ t < n ∧ f t.toNat = true := by
  unfold listedL
  simp only [List.mem_map, List.mem_filter, List.mem_range]
  constructor
  · rintro ⟨i, ⟨h1, h2⟩, rfl⟩
    exact ⟨by omega, by omega, by simpa using h2⟩
  · rintro ⟨h1, h2, h3⟩
    exact ⟨t.toNat, ⟨by omega, h3⟩, by omega⟩
theorem listedL_srt (n : Nat) (f : Nat → Bool) : Srt (listedL n f) := by
  unfold listedL Srt
  refine List.pairwise_map.2 (List.Pairwise.filter _ ?_)
  exact (List.pairwise_lt_range (n := n)).imp fun h => by omega
theorem r07listed_e (n : Nat) (f : Nat → Bool) (hn : n ≤ 1000000) : AF Tryz.prog 134 [pBools n f] (· = .own 3 1 (listedL n f).length ((listedL n f).map pInt)) := by
  refine AF.of_body 20 Tryz.func134 rfl Tryz.ntmps134 (Nat.le_of_ble_eq_true rfl) ?_
  intro w0 M0 vs hl hv
  obtain ⟨v0, rfl⟩ := len1 hl
  clear hl hv
  refine nav ?_
  (refine aC_region ?_
    <;> refine xL 2 q_assign ?_
    <;> refine aL_end (nav ?_) <;> try dsimp only)
  (refine aC_region ?_
    <;> refine xL 3 q_assign ?_
    <;> refine aL_end (nav ?_) <;> try dsimp only)
  refine aC_ent (nilOwn 200 3 1 rfl) fun _ => ?_
  (refine aC_region ?_
    <;> refine xL 4 q_assign ?_
    <;> refine aL_end (nav ?_) <;> try dsimp only)
  refine aC_loop (ι := { q : Nat × Value // q.1 ≤ n ∧ q.2.oneCell' = true }) (fun k => ⟨[(0, _, _), (3, k.1.2, .val k.1.2), (4, .int .i64 k.1.1, pInt k.1.1)], [(200, k.1.2, .own 3 1 (listedL k.1.1 f).length ((listedL k.1.1 f).map pInt))]⟩) (fun k => n - k.1.1) ⟨(0, .slice none 0 0), Nat.zero_le _, rfl⟩ (fun a w H => H.weaken ⟨rfl, rfl, rfl, trivial⟩ ⟨rfl, trivial⟩) ?_
  rintro ⟨⟨k, r⟩, hk, hr⟩
  dsimp only
  dsimp only at hk hr
  have hll := listedL_len k f
  refine nav ?_
  (refine aC_region ?_
    <;> refine xL 5 q_move ?_
    <;> refine xL 6 q_move ?_
    <;> refine xL 7 (q_len tSl160_LdT) ?_
    <;> refine xL 8 q_lss ?_
    <;> refine aL_end (nav ?_) <;> try dsimp only)
  first | refine cCd (fun hb8 => ?_) (fun hb8 => ?_) | refine cC (fun hb8 => ?_) (fun hb8 => ?_)
  · first
    | exact Bool.noConfusion hb8
    | (
     have hlt : k < n := by omega
     have e1 := vec_at1 (fun i => pBool (f i)) hlt
     have e2 := listedL_snoc k f
     refine nav ?_
     (refine aC_region ?_
       <;> refine xL 11 q_move ?_
       <;> refine xL 12 q_move ?_
       <;> refine xL 13 (q_idxN tSl160_LdT) ?_
       <;> (refine yL 14 (q_ld tNa4_LdT) fun v14 hv14 => ?_; cases hv14)
       <;> refine aL_end (nav ?_) <;> try dsimp only)
     first | refine cCd (fun hb14 => ?_) (fun hb14 => ?_) | refine cC (fun hb14 => ?_) (fun hb14 => ?_)
     · first
       | exact Bool.noConfusion hb14
       | (
        refine nav ?_
        (refine aC_region ?_
          <;> refine xL 15 q_move ?_
          <;> refine xL 16 q_move ?_
          <;> refine s_lit1 (kk := 1) 17 tEl63_LdT fun h17 ho17 => ?_
          <;> (refine s_app 200 17 18 tEl63_LdT fun h18 ho18 => ?_; refine aL_ent (relabel (l := 18) 200 rfl rfl) fun _ => ?_; rw [show PV.own 3 1 ((listedL k f).length + 1) ((listedL k f).map pInt ++ [pInt k]) = .own 3 1 (listedL k f ++ [(k : Int)]).length ((listedL k f ++ [(k : Int)]).map pInt) from own_snoc _ _ _])
          <;> refine xL 3 q_assign ?_
          <;> refine aL_end (nav ?_) <;> try dsimp only)
        (refine aC_region ?_
          <;> refine xL 9 q_move ?_
          <;> refine xL 10 q_add ?_
          <;> refine xL 4 q_assign ?_
          <;> refine aL_end (nav ?_) <;> try dsimp only)
        try rw [show listedL k f ++ [(k : Int)] = listedL (k + 1) f by rw [e2, if_pos (by simpa using hb14)]]
        try rw [show listedL k f = listedL (k + 1) f by rw [e2, if_neg (by simpa using hb14), List.append_nil]]
        first
          | (exact aN_again (
              ⟨(k + 1, h18), by dsimp only; omega, ho18⟩
              ) (by dsimp only; omega) ⟨rfl, rfl, rfl, trivial⟩ ⟨rfl, trivial⟩)
          | (exact aN_again (
              ⟨(k + 1, r), by dsimp only; omega, hr⟩
              ) (by dsimp only; omega) ⟨rfl, rfl, rfl, trivial⟩ ⟨rfl, trivial⟩))
     · first
       | exact Bool.noConfusion hb14
       | (
        refine nav ?_
        (refine aC_region ?_
          <;> refine xL 9 q_move ?_
          <;> refine xL 10 q_add ?_
          <;> refine xL 4 q_assign ?_
          <;> refine aL_end (nav ?_) <;> try dsimp only)
        try rw [show listedL k f ++ [(k : Int)] = listedL (k + 1) f by rw [e2, if_pos (by simpa using hb14)]]
        try rw [show listedL k f = listedL (k + 1) f by rw [e2, if_neg (by simpa using hb14), List.append_nil]]
        first
          | (exact aN_again (
              ⟨(k + 1, h18), by dsimp only; omega, ho18⟩
              ) (by dsimp only; omega) ⟨rfl, rfl, rfl, trivial⟩ ⟨rfl, trivial⟩)
          | (exact aN_again (
              ⟨(k + 1, r), by dsimp only; omega, hr⟩
              ) (by dsimp only; omega) ⟨rfl, rfl, rfl, trivial⟩ ⟨rfl, trivial⟩)))
  · first
    | exact Bool.noConfusion hb8
    | (
     refine nav ?_
     (refine aC_region ?_
       <;> refine xL 19 q_move ?_
       <;> refine xL 2 q_assign ?_
       <;> refine aL_end (nav ?_) <;> try dsimp only)
     refine ret_own 200 (Tryz.results134) rfl rfl ?_
     rw [show k = n by omega])
end Go.Proofs.YtebcjijpdhbcdaaGreat
