/-
  The law AutomatonUnique: minimal automata are unique.
-/
import Derived.Test.YtgigclnaicbiaaaDoorPk05
import Derived.Test.YtgigclnaicbiaaaDoorPk03
namespace Go.Proofs.YtgigclnaicbiaaaDoor
open Go.RowKit Go.Cb Go.En
set_option linter.all false
set_option maxRecDepth 100000
theorem tEl43_LiA : ElT Tryd.prog 43 25 5 88 (.agg #[(.int .i64 0), (.int .i64 0), (.slice none 0 0), (.slice none 0 0), (.slice none 0 0)]) := ⟨Tryd.underlying43, by kernel_rfl, rfl, by decide⟩
section
variable {P : Program} {o : Oper} {st : St}
theorem q_neqU {x y : Operand} {q q' : PV} {t t' : TypeId} {k : IntKind} {a : Int} (ho : o.op = .binOp .neq t x y t' := by exact rfl) (hx : ev st.slots x = some (.int k a, q) := by exact rfl) (hy : ev st.slots y = some (.int k a, q') := by exact rfl) : YE P st o (· = .bool false) (.val (.bool false)) := by
 have h := q_neq (P := P) ho hx hy
 rwa [decide_eq_false (fun h => h rfl)] at h
end
theorem minU_err {a : Aut} {e : Int} (h : minX a = .error e) : ¬ e = 0 := by
 unfold minX redX at h
 split at h
 · split at h
   · rename_i t _
     cases hl : leastT t with
     | some A => rw [hl] at h; cases h
     | none => rw [hl] at h; cases h; decide
   · cases h; decide
 · cases h; decide
theorem autUnique_a (a b m n : Aut) (e f : Int) (hef : e ≠ 0 ∨ f ≠ 0 ∨ a.syms ≠ b.syms) (c1 : AF Tryd.prog 6 [pAut a] (· = .tup [pAut m, pInt e])) (c2 : AF Tryd.prog 6 [pAut b] (· = .tup [pAut n, pInt f])) : AF Tryd.prog 3 [pAut a, pAut b] (· = pBool true) := by
 refine AF.of_body 191 Tryd.func3 rfl Tryd.ntmps3 (Nat.le_of_ble_eq_true rfl) ?_
 intro w0 M0 vs hl hv
 obtain ⟨v0, v1, rfl⟩ := len2 hl
 clear hl hv
 refine nav ?_
 (refine aC_region ?_ <;> refine s_boxa 2 5 fun h2 => ?_ <;> refine s_boxa 3 5 fun h3 => ?_ <;> refine xL 4 q_assign ?_ <;> refine aL_end (nav ?_) <;> try dsimp only)
 (refine aC_region ?_ <;> (refine cS 23 (cA Tryd.call4 (awake07_e)) fun v23 hv23 => ?_; cases hv23) <;> refine xL 24 q_not ?_ <;> refine aL_end (nav ?_) <;> try dsimp only)
 (first | refine cCd ?_ ?_ | refine cC ?_ ?_) <;> intro hb24
 · first
   | exact Bool.noConfusion hb24
   | (
    refine nav ?_
    (refine aC_region ?_ <;> refine xL 4 q_assign ?_ <;> refine aL_end (nav ?_) <;> try dsimp only)
    exfalso; simp at hb24)
 · first
   | exact Bool.noConfusion hb24
   | (
    refine nav ?_
    (refine aC_region ?_ <;> (refine yL 25 (q_ldao 2 tAgg25_LdS) fun v25 hv25 => ?_; cases hv25) <;> (refine yL 26 (q_ldao 3 tAgg25_LdS) fun v26 hv26 => ?_; cases hv26) <;> (refine s_lita (kk := 5) (xs := [_, _]) (cs := [[_, _, _, _, _], [_, _, _, _, _]]) 27 tEl43_LiA fun h27 ho27 => ?_; refine aL_ent (En.freeze (l := 27) (t := 27) rfl rfl) fun _ => ?_; refine aL_ent (reslot (t := 27) (p' := .sl [a, b].length ([a, b].flatMap cAut)) rfl rfl) fun _ => ?_) <;> (refine cS 28 (cA Tryd.call5 (great07_e [a, b])) fun v28 hv28 => ?_; cases hv28) <;> refine aL_end (nav ?_) <;> try dsimp only)
    (first | refine cCd ?_ ?_ | refine cC ?_ ?_) <;> intro hb28
    · first
      | exact Bool.noConfusion hb28
      | (
       refine nav ?_
       (refine aC_region ?_ <;> refine xL 4 q_assign ?_ <;> refine aL_end (nav ?_) <;> try dsimp only)
       exact ret_shr (Tryd.results3) rfl rfl)
    · first
      | exact Bool.noConfusion hb28
      | (
       refine nav ?_
       (refine aC_region ?_ <;> (refine yL 30 (q_ldao 2 tAgg25_LdS) fun v30 hv30 => ?_; cases hv30) <;> (refine cP 31 (cA Tryd.call6 (c1)) fun va31 vb31 hva31 hvb31 => ?_; cases hvb31) <;> refine xL 29 q_move ?_ <;> refine xL 32 q_extract ?_ <;> refine xL 33 q_extract ?_ <;> refine s_alloc [(.int .i64 0), (.int .i64 0), (.slice none 0 0), (.slice none 0 0), (.slice none 0 0)] 5 5 tZr25_LfD fun h5 => ?_ <;> refine s_sta 5 tAgg25_LdS ?_ <;> refine xL 6 q_assign ?_ <;> refine aL_end (nav ?_) <;> try dsimp only)
       (refine aC_region ?_ <;> (refine yL 35 (q_ldao 3 tAgg25_LdS) fun v35 hv35 => ?_; cases hv35) <;> (refine cP 36 (cA Tryd.call6 (c2)) fun va36 vb36 hva36 hvb36 => ?_; cases hvb36) <;> refine xL 34 q_move ?_ <;> refine xL 37 q_extract ?_ <;> refine xL 38 q_extract ?_ <;> refine s_alloc [(.int .i64 0), (.int .i64 0), (.slice none 0 0), (.slice none 0 0), (.slice none 0 0)] 5 7 tZr25_LfD fun h7 => ?_ <;> refine s_sta 7 tAgg25_LdS ?_ <;> refine xL 8 q_assign ?_ <;> refine aL_end (nav ?_) <;> try dsimp only)
       (refine aC_region ?_ <;> refine xL 39 q_move ?_ <;> refine xL 40 q_neq ?_ <;> refine xL 41 q_move ?_ <;> (refine bLd 41 (fun hb41 => ?_) (fun hb41 => ?_) <;> (first | refine kL 42 ?_ | refine xL 42 q_move ?_)) <;> (first | refine kL 43 ?_ | refine xL 43 q_neq ?_) <;> refine xL 44 q_pick ?_ <;> refine xL 45 q_move ?_ <;> (first | refine kL 46 ?_ | (refine bLd 45 (fun hb45 => ?_) (fun hb45 => ?_) <;> (first | refine kL 46 ?_ | refine xL 46 (q_fldo 2 tFl25_1_LdI) ?_))) <;> (first | refine kL 47 ?_ | (refine yL 47 (q_ldo 2 tNa3_LbB) fun v47 hv47 => ?_; cases hv47)) <;> (first | refine kL 48 ?_ | refine xL 48 (q_fldo 3 tFl25_1_LdI) ?_) <;> (first | refine kL 49 ?_ | (refine yL 49 (q_ldo 3 tNa3_LbB) fun v49 hv49 => ?_; cases hv49)) <;> (first | refine kL 50 ?_ | refine xL 50 q_neq ?_) <;> refine xL 51 q_pick ?_ <;> refine aL_end (nav ?_) <;> try dsimp only) <;> (
        (first | refine cCd ?_ ?_ | refine cC ?_ ?_) <;> intro hb51
        · refine nav ?_
          (refine aC_region ?_ <;> refine xL 4 q_assign ?_ <;> refine aL_end (nav ?_) <;> try dsimp only)
          exact ret_shr (Tryd.results3) rfl rfl
        · first | exact Bool.noConfusion hb51 | (exfalso; omega))))
set_option maxHeartbeats 4000000 in
theorem autUnique_l (a b m n : Aut) (s is one two : Bool) (wz w u v : List Int) (h : Int) (h4 : h = 0 ∧ s = true ∨ h = 13) (hs : a.syms = b.syms) (hml : m.moves.length ≤ 20000)
 (c1 : AF Tryd.prog 6 [pAut a] (· = .tup [pAut m, pInt 0])) (c2 : AF Tryd.prog 6 [pAut b] (· = .tup [pAut n, pInt 0])) (c3 : AF Tryd.prog 6 [pAut m] (· = .tup [pAut m, pInt 0])) (c4 : AF Tryd.prog 7 [pAut a, pAut m] (· = .tup [pBool s, pInts wz, pInt h]))
 (c5 : AF Tryd.prog 7 [pAut a, pAut b] (· = .tup [pBool is, pInts w, pInt 13])) (c6 : AF Tryd.prog 9 [pAut a, pAut b] (· = .tup [pBool one, pInts u, pInt 13])) (c7 : AF Tryd.prog 9 [pAut b, pAut a] (· = .tup [pBool two, pInts v, pInt 13])) : AF Tryd.prog 3 [pAut a, pAut b] (· = pBool true) := by
 refine AF.of_body 191 Tryd.func3 rfl Tryd.ntmps3 (Nat.le_of_ble_eq_true rfl) ?_
 intro w0 M0 vs hl hv
 obtain ⟨v0, v1, rfl⟩ := len2 hl
 clear hl hv
 refine nav ?_
 (refine aC_region ?_ <;> refine s_boxa 2 5 fun h2 => ?_ <;> refine s_boxa 3 5 fun h3 => ?_ <;> refine xL 4 q_assign ?_ <;> refine aL_end (nav ?_) <;> try dsimp only)
 (refine aC_region ?_ <;> (refine cS 23 (cA Tryd.call4 (awake07_e)) fun v23 hv23 => ?_; cases hv23) <;> refine xL 24 q_not ?_ <;> refine aL_end (nav ?_) <;> try dsimp only)
 (first | refine cCd ?_ ?_ | refine cC ?_ ?_) <;> intro hb24
 · first
   | exact Bool.noConfusion hb24
   | (
    refine nav ?_
    (refine aC_region ?_ <;> refine xL 4 q_assign ?_ <;> refine aL_end (nav ?_) <;> try dsimp only)
    exfalso; simp at hb24)
 · first
   | exact Bool.noConfusion hb24
   | (
    refine nav ?_
    (refine aC_region ?_ <;> (refine yL 25 (q_ldao 2 tAgg25_LdS) fun v25 hv25 => ?_; cases hv25) <;> (refine yL 26 (q_ldao 3 tAgg25_LdS) fun v26 hv26 => ?_; cases hv26) <;> (refine s_lita (kk := 5) (xs := [_, _]) (cs := [[_, _, _, _, _], [_, _, _, _, _]]) 27 tEl43_LiA fun h27 ho27 => ?_; refine aL_ent (En.freeze (l := 27) (t := 27) rfl rfl) fun _ => ?_; refine aL_ent (reslot (t := 27) (p' := .sl [a, b].length ([a, b].flatMap cAut)) rfl rfl) fun _ => ?_) <;> (refine cS 28 (cA Tryd.call5 (great07_e [a, b])) fun v28 hv28 => ?_; cases hv28) <;> refine aL_end (nav ?_) <;> try dsimp only)
    (first | refine cCd ?_ ?_ | refine cC ?_ ?_) <;> intro hb28
    · first
      | exact Bool.noConfusion hb28
      | (
       refine nav ?_
       (refine aC_region ?_ <;> refine xL 4 q_assign ?_ <;> refine aL_end (nav ?_) <;> try dsimp only)
       exact ret_shr (Tryd.results3) rfl rfl)
    · first
      | exact Bool.noConfusion hb28
      | (
       refine nav ?_
       (refine aC_region ?_ <;> (refine yL 30 (q_ldao 2 tAgg25_LdS) fun v30 hv30 => ?_; cases hv30) <;> (refine cP 31 (cA Tryd.call6 (c1)) fun va31 vb31 hva31 hvb31 => ?_; cases hvb31) <;> refine xL 29 q_move ?_ <;> refine xL 32 q_extract ?_ <;> refine xL 33 q_extract ?_ <;> refine s_alloc [(.int .i64 0), (.int .i64 0), (.slice none 0 0), (.slice none 0 0), (.slice none 0 0)] 5 5 tZr25_LfD fun h5 => ?_ <;> refine s_sta 5 tAgg25_LdS ?_ <;> refine xL 6 q_assign ?_ <;> refine aL_end (nav ?_) <;> try dsimp only)
       (refine aC_region ?_ <;> (refine yL 35 (q_ldao 3 tAgg25_LdS) fun v35 hv35 => ?_; cases hv35) <;> (refine cP 36 (cA Tryd.call6 (c2)) fun va36 vb36 hva36 hvb36 => ?_; cases hvb36) <;> refine xL 34 q_move ?_ <;> refine xL 37 q_extract ?_ <;> refine xL 38 q_extract ?_ <;> refine s_alloc [(.int .i64 0), (.int .i64 0), (.slice none 0 0), (.slice none 0 0), (.slice none 0 0)] 5 7 tZr25_LfD fun h7 => ?_ <;> refine s_sta 7 tAgg25_LdS ?_ <;> refine xL 8 q_assign ?_ <;> refine aL_end (nav ?_) <;> try dsimp only)
       (refine aC_region ?_ <;> refine xL 39 q_move ?_ <;> refine xL 40 q_neqU ?_ <;> refine xL 41 q_move ?_ <;> refine xL 42 q_move ?_ <;> refine xL 43 q_neqU ?_ <;> refine xL 44 q_pick ?_ <;> refine xL 45 q_move ?_ <;> refine xL 46 (q_fldo 2 tFl25_1_LdI) ?_ <;> (refine yL 47 (q_ldo 2 tNa3_LbB) fun v47 hv47 => ?_; cases hv47) <;> refine xL 48 (q_fldo 3 tFl25_1_LdI) ?_ <;> (refine yL 49 (q_ldo 3 tNa3_LbB) fun v49 hv49 => ?_; cases hv49) <;> refine xL 50 q_neq ?_ <;> refine xL 51 q_pick ?_ <;> refine aL_end (nav ?_) <;> try dsimp only) <;> (
        (first | refine cCd ?_ ?_ | refine cC ?_ ?_) <;> intro hb51
        · first | exact Bool.noConfusion hb51 | (exfalso; omega)
        · refine nav ?_
          (refine aC_region ?_ <;> (refine yL 53 (q_ldao 5 tAgg25_LdS) fun v53 hv53 => ?_; cases hv53) <;> (refine cP 54 (cA Tryd.call6 (c3)) fun va54 vb54 hva54 hvb54 => ?_; cases hvb54) <;> refine xL 52 q_move ?_ <;> refine xL 55 q_extract ?_ <;> refine xL 56 q_extract ?_ <;> refine s_alloc [(.int .i64 0), (.int .i64 0), (.slice none 0 0), (.slice none 0 0), (.slice none 0 0)] 5 9 tZr25_LfD fun h9 => ?_ <;> refine s_sta 9 tAgg25_LdS ?_ <;> refine xL 10 q_assign ?_ <;> refine aL_end (nav ?_) <;> try dsimp only)
          (refine aC_region ?_ <;> (refine yL 58 (q_ldao 2 tAgg25_LdS) fun v58 hv58 => ?_; cases hv58) <;> (refine yL 59 (q_ldao 5 tAgg25_LdS) fun v59 hv59 => ?_; cases hv59) <;> (refine cPx3 60 (cA Tryd.call7 c4) fun va60 vb60 vc60 hva60 hvb60 hvc60 => ?_; cases hva60; cases hvc60) <;> refine xL 57 q_move ?_ <;> refine xL 61 q_extract ?_ <;> refine xL 62 q_extract ?_ <;> refine xL 63 q_extract ?_ <;> refine xL 11 q_assign ?_ <;> refine xL 12 q_assign ?_ <;> refine xL 13 q_assign ?_ <;> refine aL_end (nav ?_) <;> try dsimp only)
          (refine aC_region ?_ <;> refine xL 64 q_move ?_ <;> refine xL 65 q_neqU ?_ <;> refine xL 66 q_move ?_ <;> (refine yL 67 (q_ldao 9 tAgg25_LdS) fun v67 hv67 => ?_; cases hv67) <;> (refine yL 68 (q_ldao 5 tAgg25_LdS) fun v68 hv68 => ?_; cases hv68) <;> (refine cS 69 (cA Tryd.call8 (r07Same_self _ hml)) fun v69 hv69 => ?_; cases hv69) <;> refine xL 70 q_not ?_ <;> refine xL 71 q_pick ?_ <;> refine xL 72 q_move ?_ <;> refine xL 73 q_move ?_ <;> refine xL 74 q_neq ?_ <;> refine xL 75 q_move ?_ <;> (refine bLd 75 (fun hb75 => ?_) (fun hb75 => ?_) <;> (first | refine kL 76 ?_ | refine xL 76 q_move ?_)) <;> (first | refine kL 77 ?_ | refine xL 77 q_neq ?_) <;> refine xL 78 q_pick ?_ <;> refine xL 79 q_pick ?_ <;> refine xL 80 q_move ?_ <;> (first | refine xL 81 q_move ?_ | (refine bLd 80 (fun hb80 => ?_) (fun hb80 => ?_) <;> (first | refine kL 81 ?_ | refine xL 81 q_move ?_))) <;> (first | refine kL 82 ?_ | refine xL 82 q_eql ?_) <;> (first | refine kL 83 ?_ | refine xL 83 q_move ?_) <;> (first | refine kL 84 ?_ | (refine bLd 83 (fun hb83 => ?_) (fun hb83 => ?_) <;> (first | refine kL 84 ?_ | refine xL 84 q_move ?_))) <;> (first | refine kL 85 ?_ | refine xL 85 q_not ?_) <;> (first | refine kL 86 ?_ | refine xL 86 q_pick ?_) <;> refine xL 87 q_pick ?_ <;> refine aL_end (nav ?_) <;> try dsimp only) <;> (
           (first | refine cCd ?_ ?_ | refine cC ?_ ?_) <;> intro hb87
           · first | exact Bool.noConfusion hb87 | (exfalso; rcases h4 with ⟨h4, h5⟩ | h4 <;> first | omega | (rw [h5] at hb87; exact Bool.noConfusion hb87))
           · refine nav ?_
             (refine aC_region ?_ <;> (refine yL 89 (q_ldao 2 tAgg25_LdS) fun v89 hv89 => ?_; cases hv89) <;> (refine yL 90 (q_ldao 3 tAgg25_LdS) fun v90 hv90 => ?_; cases hv90) <;> (refine cPx3 91 (cA Tryd.call7 c5) fun va91 vb91 vc91 hva91 hvb91 hvc91 => ?_; cases hva91; cases hvc91) <;> refine xL 88 q_move ?_ <;> refine xL 92 q_extract ?_ <;> refine xL 93 q_extract ?_ <;> refine xL 94 q_extract ?_ <;> refine xL 14 q_assign ?_ <;> refine xL 15 q_assign ?_ <;> refine xL 16 q_assign ?_ <;> refine aL_end (nav ?_) <;> try dsimp only)
             (refine aC_region ?_ <;> (refine yL 96 (q_ldao 2 tAgg25_LdS) fun v96 hv96 => ?_; cases hv96) <;> (refine yL 97 (q_ldao 3 tAgg25_LdS) fun v97 hv97 => ?_; cases hv97) <;> (refine cPx3 98 (cA Tryd.call9 c6) fun va98 vb98 vc98 hva98 hvb98 hvc98 => ?_; cases hva98; cases hvc98) <;> refine xL 95 q_move ?_ <;> refine xL 99 q_extract ?_ <;> refine xL 100 q_extract ?_ <;> refine xL 101 q_extract ?_ <;> refine xL 17 q_assign ?_ <;> refine xL 18 q_assign ?_ <;> refine xL 19 q_assign ?_ <;> refine aL_end (nav ?_) <;> try dsimp only)
             (refine aC_region ?_ <;> (refine yL 103 (q_ldao 3 tAgg25_LdS) fun v103 hv103 => ?_; cases hv103) <;> (refine yL 104 (q_ldao 2 tAgg25_LdS) fun v104 hv104 => ?_; cases hv104) <;> (refine cPx3 105 (cA Tryd.call9 c7) fun va105 vb105 vc105 hva105 hvb105 hvc105 => ?_; cases hva105; cases hvc105) <;> refine xL 102 q_move ?_ <;> refine xL 106 q_extract ?_ <;> refine xL 107 q_extract ?_ <;> refine xL 108 q_extract ?_ <;> refine xL 20 q_assign ?_ <;> refine xL 21 q_assign ?_ <;> refine xL 22 q_assign ?_ <;> refine aL_end (nav ?_) <;> try dsimp only)
             (refine aC_region ?_ <;> refine xL 109 q_move ?_ <;> refine xL 110 q_neq ?_ <;> refine aL_end (nav ?_) <;> try dsimp only)
             (first | refine cCd ?_ ?_ | refine cC ?_ ?_) <;> intro hb110
             · refine nav ?_
               (refine aC_region ?_ <;> refine xL 111 q_move ?_ <;> refine xL 112 q_eqlT ?_ <;> refine xL 113 q_move ?_ <;> refine xL 114 q_move ?_ <;> refine xL 115 q_eqlT ?_ <;> refine xL 116 q_pick ?_ <;> refine xL 117 q_move ?_ <;> refine xL 118 q_move ?_ <;> refine xL 119 q_eqlT ?_ <;> refine xL 120 q_pick ?_ <;> refine xL 4 q_assign ?_ <;> refine aL_end (nav ?_) <;> try dsimp only) <;> (
                exact ret_shr (Tryd.results3) rfl rfl)
             · first | exact Bool.noConfusion hb110 | (exfalso; omega)))))
set_option maxHeartbeats 4000000 in
theorem autUnique_t (a b m n : Aut) (s : Bool) (wz w u v : List Int) (h : Int) (h4 : h = 0 ∧ s = true ∨ h = 13) (hs : a.syms = b.syms) (hml : m.moves.length ≤ 20000)
 (c1 : AF Tryd.prog 6 [pAut a] (· = .tup [pAut m, pInt 0])) (c2 : AF Tryd.prog 6 [pAut b] (· = .tup [pAut n, pInt 0])) (c3 : AF Tryd.prog 6 [pAut m] (· = .tup [pAut m, pInt 0])) (c4 : AF Tryd.prog 7 [pAut a, pAut m] (· = .tup [pBool s, pInts wz, pInt h]))
 (c5 : AF Tryd.prog 7 [pAut a, pAut b] (· = .tup [pBool true, pInts w, pInt 0])) (c6 : AF Tryd.prog 9 [pAut a, pAut b] (· = .tup [pBool true, pInts u, pInt 0])) (c7 : AF Tryd.prog 9 [pAut b, pAut a] (· = .tup [pBool true, pInts v, pInt 0])) (c8 : AF Tryd.prog 8 [pAut m, pAut n] (· = pBool true)) (_ : True) : AF Tryd.prog 3 [pAut a, pAut b] (· = pBool true) := by
 refine AF.of_body 191 Tryd.func3 rfl Tryd.ntmps3 (Nat.le_of_ble_eq_true rfl) ?_
 intro w0 M0 vs hl hv
 obtain ⟨v0, v1, rfl⟩ := len2 hl
 clear hl hv
 refine nav ?_
 (refine aC_region ?_ <;> refine s_boxa 2 5 fun h2 => ?_ <;> refine s_boxa 3 5 fun h3 => ?_ <;> refine xL 4 q_assign ?_ <;> refine aL_end (nav ?_) <;> try dsimp only)
 (refine aC_region ?_ <;> (refine cS 23 (cA Tryd.call4 (awake07_e)) fun v23 hv23 => ?_; cases hv23) <;> refine xL 24 q_not ?_ <;> refine aL_end (nav ?_) <;> try dsimp only)
 (first | refine cCd ?_ ?_ | refine cC ?_ ?_) <;> intro hb24
 · first
   | exact Bool.noConfusion hb24
   | (
    refine nav ?_
    (refine aC_region ?_ <;> refine xL 4 q_assign ?_ <;> refine aL_end (nav ?_) <;> try dsimp only)
    exfalso; simp at hb24)
 · first
   | exact Bool.noConfusion hb24
   | (
    refine nav ?_
    (refine aC_region ?_ <;> (refine yL 25 (q_ldao 2 tAgg25_LdS) fun v25 hv25 => ?_; cases hv25) <;> (refine yL 26 (q_ldao 3 tAgg25_LdS) fun v26 hv26 => ?_; cases hv26) <;> (refine s_lita (kk := 5) (xs := [_, _]) (cs := [[_, _, _, _, _], [_, _, _, _, _]]) 27 tEl43_LiA fun h27 ho27 => ?_; refine aL_ent (En.freeze (l := 27) (t := 27) rfl rfl) fun _ => ?_; refine aL_ent (reslot (t := 27) (p' := .sl [a, b].length ([a, b].flatMap cAut)) rfl rfl) fun _ => ?_) <;> (refine cS 28 (cA Tryd.call5 (great07_e [a, b])) fun v28 hv28 => ?_; cases hv28) <;> refine aL_end (nav ?_) <;> try dsimp only)
    (first | refine cCd ?_ ?_ | refine cC ?_ ?_) <;> intro hb28
    · first
      | exact Bool.noConfusion hb28
      | (
       refine nav ?_
       (refine aC_region ?_ <;> refine xL 4 q_assign ?_ <;> refine aL_end (nav ?_) <;> try dsimp only)
       exact ret_shr (Tryd.results3) rfl rfl)
    · first
      | exact Bool.noConfusion hb28
      | (
       refine nav ?_
       (refine aC_region ?_ <;> (refine yL 30 (q_ldao 2 tAgg25_LdS) fun v30 hv30 => ?_; cases hv30) <;> (refine cP 31 (cA Tryd.call6 (c1)) fun va31 vb31 hva31 hvb31 => ?_; cases hvb31) <;> refine xL 29 q_move ?_ <;> refine xL 32 q_extract ?_ <;> refine xL 33 q_extract ?_ <;> refine s_alloc [(.int .i64 0), (.int .i64 0), (.slice none 0 0), (.slice none 0 0), (.slice none 0 0)] 5 5 tZr25_LfD fun h5 => ?_ <;> refine s_sta 5 tAgg25_LdS ?_ <;> refine xL 6 q_assign ?_ <;> refine aL_end (nav ?_) <;> try dsimp only)
       (refine aC_region ?_ <;> (refine yL 35 (q_ldao 3 tAgg25_LdS) fun v35 hv35 => ?_; cases hv35) <;> (refine cP 36 (cA Tryd.call6 (c2)) fun va36 vb36 hva36 hvb36 => ?_; cases hvb36) <;> refine xL 34 q_move ?_ <;> refine xL 37 q_extract ?_ <;> refine xL 38 q_extract ?_ <;> refine s_alloc [(.int .i64 0), (.int .i64 0), (.slice none 0 0), (.slice none 0 0), (.slice none 0 0)] 5 7 tZr25_LfD fun h7 => ?_ <;> refine s_sta 7 tAgg25_LdS ?_ <;> refine xL 8 q_assign ?_ <;> refine aL_end (nav ?_) <;> try dsimp only)
       (refine aC_region ?_ <;> refine xL 39 q_move ?_ <;> refine xL 40 q_neqU ?_ <;> refine xL 41 q_move ?_ <;> refine xL 42 q_move ?_ <;> refine xL 43 q_neqU ?_ <;> refine xL 44 q_pick ?_ <;> refine xL 45 q_move ?_ <;> refine xL 46 (q_fldo 2 tFl25_1_LdI) ?_ <;> (refine yL 47 (q_ldo 2 tNa3_LbB) fun v47 hv47 => ?_; cases hv47) <;> refine xL 48 (q_fldo 3 tFl25_1_LdI) ?_ <;> (refine yL 49 (q_ldo 3 tNa3_LbB) fun v49 hv49 => ?_; cases hv49) <;> refine xL 50 q_neq ?_ <;> refine xL 51 q_pick ?_ <;> refine aL_end (nav ?_) <;> try dsimp only) <;> (
        (first | refine cCd ?_ ?_ | refine cC ?_ ?_) <;> intro hb51
        · first | exact Bool.noConfusion hb51 | (exfalso; omega)
        · refine nav ?_
          (refine aC_region ?_ <;> (refine yL 53 (q_ldao 5 tAgg25_LdS) fun v53 hv53 => ?_; cases hv53) <;> (refine cP 54 (cA Tryd.call6 (c3)) fun va54 vb54 hva54 hvb54 => ?_; cases hvb54) <;> refine xL 52 q_move ?_ <;> refine xL 55 q_extract ?_ <;> refine xL 56 q_extract ?_ <;> refine s_alloc [(.int .i64 0), (.int .i64 0), (.slice none 0 0), (.slice none 0 0), (.slice none 0 0)] 5 9 tZr25_LfD fun h9 => ?_ <;> refine s_sta 9 tAgg25_LdS ?_ <;> refine xL 10 q_assign ?_ <;> refine aL_end (nav ?_) <;> try dsimp only)
          (refine aC_region ?_ <;> (refine yL 58 (q_ldao 2 tAgg25_LdS) fun v58 hv58 => ?_; cases hv58) <;> (refine yL 59 (q_ldao 5 tAgg25_LdS) fun v59 hv59 => ?_; cases hv59) <;> (refine cPx3 60 (cA Tryd.call7 c4) fun va60 vb60 vc60 hva60 hvb60 hvc60 => ?_; cases hva60; cases hvc60) <;> refine xL 57 q_move ?_ <;> refine xL 61 q_extract ?_ <;> refine xL 62 q_extract ?_ <;> refine xL 63 q_extract ?_ <;> refine xL 11 q_assign ?_ <;> refine xL 12 q_assign ?_ <;> refine xL 13 q_assign ?_ <;> refine aL_end (nav ?_) <;> try dsimp only)
          (refine aC_region ?_ <;> refine xL 64 q_move ?_ <;> refine xL 65 q_neqU ?_ <;> refine xL 66 q_move ?_ <;> (refine yL 67 (q_ldao 9 tAgg25_LdS) fun v67 hv67 => ?_; cases hv67) <;> (refine yL 68 (q_ldao 5 tAgg25_LdS) fun v68 hv68 => ?_; cases hv68) <;> (refine cS 69 (cA Tryd.call8 (r07Same_self _ hml)) fun v69 hv69 => ?_; cases hv69) <;> refine xL 70 q_not ?_ <;> refine xL 71 q_pick ?_ <;> refine xL 72 q_move ?_ <;> refine xL 73 q_move ?_ <;> refine xL 74 q_neq ?_ <;> refine xL 75 q_move ?_ <;> (refine bLd 75 (fun hb75 => ?_) (fun hb75 => ?_) <;> (first | refine kL 76 ?_ | refine xL 76 q_move ?_)) <;> (first | refine kL 77 ?_ | refine xL 77 q_neq ?_) <;> refine xL 78 q_pick ?_ <;> refine xL 79 q_pick ?_ <;> refine xL 80 q_move ?_ <;> (first | refine xL 81 q_move ?_ | (refine bLd 80 (fun hb80 => ?_) (fun hb80 => ?_) <;> (first | refine kL 81 ?_ | refine xL 81 q_move ?_))) <;> (first | refine kL 82 ?_ | refine xL 82 q_eql ?_) <;> (first | refine kL 83 ?_ | refine xL 83 q_move ?_) <;> (first | refine kL 84 ?_ | (refine bLd 83 (fun hb83 => ?_) (fun hb83 => ?_) <;> (first | refine kL 84 ?_ | refine xL 84 q_move ?_))) <;> (first | refine kL 85 ?_ | refine xL 85 q_not ?_) <;> (first | refine kL 86 ?_ | refine xL 86 q_pick ?_) <;> refine xL 87 q_pick ?_ <;> refine aL_end (nav ?_) <;> try dsimp only) <;> (
           (first | refine cCd ?_ ?_ | refine cC ?_ ?_) <;> intro hb87
           · first | exact Bool.noConfusion hb87 | (exfalso; rcases h4 with ⟨h4, h5⟩ | h4 <;> first | omega | (rw [h5] at hb87; exact Bool.noConfusion hb87))
           · refine nav ?_
             (refine aC_region ?_ <;> (refine yL 89 (q_ldao 2 tAgg25_LdS) fun v89 hv89 => ?_; cases hv89) <;> (refine yL 90 (q_ldao 3 tAgg25_LdS) fun v90 hv90 => ?_; cases hv90) <;> (refine cPx3 91 (cA Tryd.call7 c5) fun va91 vb91 vc91 hva91 hvb91 hvc91 => ?_; cases hva91; cases hvc91) <;> refine xL 88 q_move ?_ <;> refine xL 92 q_extract ?_ <;> refine xL 93 q_extract ?_ <;> refine xL 94 q_extract ?_ <;> refine xL 14 q_assign ?_ <;> refine xL 15 q_assign ?_ <;> refine xL 16 q_assign ?_ <;> refine aL_end (nav ?_) <;> try dsimp only)
             (refine aC_region ?_ <;> (refine yL 96 (q_ldao 2 tAgg25_LdS) fun v96 hv96 => ?_; cases hv96) <;> (refine yL 97 (q_ldao 3 tAgg25_LdS) fun v97 hv97 => ?_; cases hv97) <;> (refine cPx3 98 (cA Tryd.call9 c6) fun va98 vb98 vc98 hva98 hvb98 hvc98 => ?_; cases hva98; cases hvc98) <;> refine xL 95 q_move ?_ <;> refine xL 99 q_extract ?_ <;> refine xL 100 q_extract ?_ <;> refine xL 101 q_extract ?_ <;> refine xL 17 q_assign ?_ <;> refine xL 18 q_assign ?_ <;> refine xL 19 q_assign ?_ <;> refine aL_end (nav ?_) <;> try dsimp only)
             (refine aC_region ?_ <;> (refine yL 103 (q_ldao 3 tAgg25_LdS) fun v103 hv103 => ?_; cases hv103) <;> (refine yL 104 (q_ldao 2 tAgg25_LdS) fun v104 hv104 => ?_; cases hv104) <;> (refine cPx3 105 (cA Tryd.call9 c7) fun va105 vb105 vc105 hva105 hvb105 hvc105 => ?_; cases hva105; cases hvc105) <;> refine xL 102 q_move ?_ <;> refine xL 106 q_extract ?_ <;> refine xL 107 q_extract ?_ <;> refine xL 108 q_extract ?_ <;> refine xL 20 q_assign ?_ <;> refine xL 21 q_assign ?_ <;> refine xL 22 q_assign ?_ <;> refine aL_end (nav ?_) <;> try dsimp only)
             (refine aC_region ?_ <;> refine xL 109 q_move ?_ <;> refine xL 110 q_neqU ?_ <;> refine aL_end (nav ?_) <;> try dsimp only)
             refine cCf ?_
             refine nav ?_
             (refine aC_region ?_ <;> refine xL 121 q_move ?_ <;> refine xL 122 q_neqU ?_ <;> refine xL 123 q_move ?_ <;> refine xL 124 q_move ?_ <;> refine xL 125 q_neqU ?_ <;> refine xL 126 q_pick ?_ <;> refine xL 127 q_move ?_ <;> refine xL 128 q_move ?_ <;> (refine yL 129 (q_ldao 5 tAgg25_LdS) fun v129 hv129 => ?_; cases hv129) <;> (refine yL 130 (q_ldao 7 tAgg25_LdS) fun v130 hv130 => ?_; cases hv130) <;> (refine cS 131 (cA Tryd.call8 (c8)) fun v131 hv131 => ?_; cases hv131) <;> refine xL 132 (q_bneq Tryd.underlying4) ?_ <;> refine xL 133 q_pick ?_ <;> refine xL 134 q_move ?_ <;> refine xL 135 q_move ?_ <;> refine xL 136 q_move ?_ <;> refine xL 137 q_move ?_ <;> refine xL 138 q_move ?_ <;> refine xL 139 q_pick ?_ <;> refine xL 140 (q_bneq Tryd.underlying4) ?_ <;> refine xL 141 q_pick ?_ <;> refine aL_end (nav ?_) <;> try dsimp only) <;> (
              refine cCf ?_
              refine nav ?_
              (refine aC_region ?_ <;> refine xL 142 q_move ?_ <;> refine xL 143 q_move ?_ <;> refine kL 144 ?_ <;> refine kL 145 ?_ <;> refine kL 146 ?_ <;> refine kL 147 ?_ <;> refine kL 148 ?_ <;> refine kL 149 ?_ <;> refine xL 150 q_pick ?_ <;> refine xL 151 q_move ?_ <;> refine kL 152 ?_ <;> refine kL 153 ?_ <;> refine kL 154 ?_ <;> refine kL 155 ?_ <;> refine kL 156 ?_ <;> refine kL 157 ?_ <;> refine xL 158 q_pick ?_ <;> refine xL 159 q_move ?_ <;> refine kL 160 ?_ <;> refine kL 161 ?_ <;> refine kL 162 ?_ <;> refine kL 163 ?_ <;> refine kL 164 ?_ <;> refine kL 165 ?_ <;> refine kL 166 ?_ <;> refine kL 167 ?_ <;> refine kL 168 ?_ <;> refine kL 169 ?_ <;> refine kL 170 ?_ <;> refine kL 171 ?_ <;> refine kL 172 ?_ <;> refine kL 173 ?_ <;> refine kL 174 ?_ <;> refine kL 175 ?_ <;> refine kL 176 ?_ <;> refine kL 177 ?_ <;> refine kL 178 ?_ <;> refine kL 179 ?_ <;> refine kL 180 ?_ <;> refine kL 181 ?_ <;> refine kL 182 ?_ <;> refine kL 183 ?_ <;> refine kL 184 ?_ <;> refine kL 185 ?_ <;> refine kL 186 ?_ <;> refine kL 187 ?_ <;> refine kL 188 ?_ <;> refine kL 189 ?_ <;> refine xL 190 q_pick ?_ <;> refine xL 4 q_assign ?_ <;> refine aL_end (nav ?_) <;> try dsimp only) <;> (
               first | exact ret_shr (Tryd.results3) rfl rfl | (refine ret_shr (Tryd.results3) rfl ?_; rw [decide_eq_true (by omega)]) | (exfalso; omega)))))))
set_option maxHeartbeats 4000000 in
theorem autUnique_o (a b m n : Aut) (s : Bool) (wz w u v : List Int) (h : Int) (h4 : h = 0 ∧ s = true ∨ h = 13) (hs : a.syms = b.syms) (hml : m.moves.length ≤ 20000)
 (c1 : AF Tryd.prog 6 [pAut a] (· = .tup [pAut m, pInt 0])) (c2 : AF Tryd.prog 6 [pAut b] (· = .tup [pAut n, pInt 0])) (c3 : AF Tryd.prog 6 [pAut m] (· = .tup [pAut m, pInt 0])) (c4 : AF Tryd.prog 7 [pAut a, pAut m] (· = .tup [pBool s, pInts wz, pInt h]))
 (c5 : AF Tryd.prog 7 [pAut a, pAut b] (· = .tup [pBool false, pInts w, pInt 0])) (c6 : AF Tryd.prog 9 [pAut a, pAut b] (· = .tup [pBool true, pInts u, pInt 0])) (c7 : AF Tryd.prog 9 [pAut b, pAut a] (· = .tup [pBool false, pInts v, pInt 0])) (c8 : AF Tryd.prog 8 [pAut m, pAut n] (· = pBool false)) (he2 : AF Tryd.prog 10 [pInts w, pInts v] (· = pBool true)) : AF Tryd.prog 3 [pAut a, pAut b] (· = pBool true) := by
 refine AF.of_body 191 Tryd.func3 rfl Tryd.ntmps3 (Nat.le_of_ble_eq_true rfl) ?_
 intro w0 M0 vs hl hv
 obtain ⟨v0, v1, rfl⟩ := len2 hl
 clear hl hv
 refine nav ?_
 (refine aC_region ?_ <;> refine s_boxa 2 5 fun h2 => ?_ <;> refine s_boxa 3 5 fun h3 => ?_ <;> refine xL 4 q_assign ?_ <;> refine aL_end (nav ?_) <;> try dsimp only)
 (refine aC_region ?_ <;> (refine cS 23 (cA Tryd.call4 (awake07_e)) fun v23 hv23 => ?_; cases hv23) <;> refine xL 24 q_not ?_ <;> refine aL_end (nav ?_) <;> try dsimp only)
 (first | refine cCd ?_ ?_ | refine cC ?_ ?_) <;> intro hb24
 · first
   | exact Bool.noConfusion hb24
   | (
    refine nav ?_
    (refine aC_region ?_ <;> refine xL 4 q_assign ?_ <;> refine aL_end (nav ?_) <;> try dsimp only)
    exfalso; simp at hb24)
 · first
   | exact Bool.noConfusion hb24
   | (
    refine nav ?_
    (refine aC_region ?_ <;> (refine yL 25 (q_ldao 2 tAgg25_LdS) fun v25 hv25 => ?_; cases hv25) <;> (refine yL 26 (q_ldao 3 tAgg25_LdS) fun v26 hv26 => ?_; cases hv26) <;> (refine s_lita (kk := 5) (xs := [_, _]) (cs := [[_, _, _, _, _], [_, _, _, _, _]]) 27 tEl43_LiA fun h27 ho27 => ?_; refine aL_ent (En.freeze (l := 27) (t := 27) rfl rfl) fun _ => ?_; refine aL_ent (reslot (t := 27) (p' := .sl [a, b].length ([a, b].flatMap cAut)) rfl rfl) fun _ => ?_) <;> (refine cS 28 (cA Tryd.call5 (great07_e [a, b])) fun v28 hv28 => ?_; cases hv28) <;> refine aL_end (nav ?_) <;> try dsimp only)
    (first | refine cCd ?_ ?_ | refine cC ?_ ?_) <;> intro hb28
    · first
      | exact Bool.noConfusion hb28
      | (
       refine nav ?_
       (refine aC_region ?_ <;> refine xL 4 q_assign ?_ <;> refine aL_end (nav ?_) <;> try dsimp only)
       exact ret_shr (Tryd.results3) rfl rfl)
    · first
      | exact Bool.noConfusion hb28
      | (
       refine nav ?_
       (refine aC_region ?_ <;> (refine yL 30 (q_ldao 2 tAgg25_LdS) fun v30 hv30 => ?_; cases hv30) <;> (refine cP 31 (cA Tryd.call6 (c1)) fun va31 vb31 hva31 hvb31 => ?_; cases hvb31) <;> refine xL 29 q_move ?_ <;> refine xL 32 q_extract ?_ <;> refine xL 33 q_extract ?_ <;> refine s_alloc [(.int .i64 0), (.int .i64 0), (.slice none 0 0), (.slice none 0 0), (.slice none 0 0)] 5 5 tZr25_LfD fun h5 => ?_ <;> refine s_sta 5 tAgg25_LdS ?_ <;> refine xL 6 q_assign ?_ <;> refine aL_end (nav ?_) <;> try dsimp only)
       (refine aC_region ?_ <;> (refine yL 35 (q_ldao 3 tAgg25_LdS) fun v35 hv35 => ?_; cases hv35) <;> (refine cP 36 (cA Tryd.call6 (c2)) fun va36 vb36 hva36 hvb36 => ?_; cases hvb36) <;> refine xL 34 q_move ?_ <;> refine xL 37 q_extract ?_ <;> refine xL 38 q_extract ?_ <;> refine s_alloc [(.int .i64 0), (.int .i64 0), (.slice none 0 0), (.slice none 0 0), (.slice none 0 0)] 5 7 tZr25_LfD fun h7 => ?_ <;> refine s_sta 7 tAgg25_LdS ?_ <;> refine xL 8 q_assign ?_ <;> refine aL_end (nav ?_) <;> try dsimp only)
       (refine aC_region ?_ <;> refine xL 39 q_move ?_ <;> refine xL 40 q_neqU ?_ <;> refine xL 41 q_move ?_ <;> refine xL 42 q_move ?_ <;> refine xL 43 q_neqU ?_ <;> refine xL 44 q_pick ?_ <;> refine xL 45 q_move ?_ <;> refine xL 46 (q_fldo 2 tFl25_1_LdI) ?_ <;> (refine yL 47 (q_ldo 2 tNa3_LbB) fun v47 hv47 => ?_; cases hv47) <;> refine xL 48 (q_fldo 3 tFl25_1_LdI) ?_ <;> (refine yL 49 (q_ldo 3 tNa3_LbB) fun v49 hv49 => ?_; cases hv49) <;> refine xL 50 q_neq ?_ <;> refine xL 51 q_pick ?_ <;> refine aL_end (nav ?_) <;> try dsimp only) <;> (
        (first | refine cCd ?_ ?_ | refine cC ?_ ?_) <;> intro hb51
        · first | exact Bool.noConfusion hb51 | (exfalso; omega)
        · refine nav ?_
          (refine aC_region ?_ <;> (refine yL 53 (q_ldao 5 tAgg25_LdS) fun v53 hv53 => ?_; cases hv53) <;> (refine cP 54 (cA Tryd.call6 (c3)) fun va54 vb54 hva54 hvb54 => ?_; cases hvb54) <;> refine xL 52 q_move ?_ <;> refine xL 55 q_extract ?_ <;> refine xL 56 q_extract ?_ <;> refine s_alloc [(.int .i64 0), (.int .i64 0), (.slice none 0 0), (.slice none 0 0), (.slice none 0 0)] 5 9 tZr25_LfD fun h9 => ?_ <;> refine s_sta 9 tAgg25_LdS ?_ <;> refine xL 10 q_assign ?_ <;> refine aL_end (nav ?_) <;> try dsimp only)
          (refine aC_region ?_ <;> (refine yL 58 (q_ldao 2 tAgg25_LdS) fun v58 hv58 => ?_; cases hv58) <;> (refine yL 59 (q_ldao 5 tAgg25_LdS) fun v59 hv59 => ?_; cases hv59) <;> (refine cPx3 60 (cA Tryd.call7 c4) fun va60 vb60 vc60 hva60 hvb60 hvc60 => ?_; cases hva60; cases hvc60) <;> refine xL 57 q_move ?_ <;> refine xL 61 q_extract ?_ <;> refine xL 62 q_extract ?_ <;> refine xL 63 q_extract ?_ <;> refine xL 11 q_assign ?_ <;> refine xL 12 q_assign ?_ <;> refine xL 13 q_assign ?_ <;> refine aL_end (nav ?_) <;> try dsimp only)
          (refine aC_region ?_ <;> refine xL 64 q_move ?_ <;> refine xL 65 q_neqU ?_ <;> refine xL 66 q_move ?_ <;> (refine yL 67 (q_ldao 9 tAgg25_LdS) fun v67 hv67 => ?_; cases hv67) <;> (refine yL 68 (q_ldao 5 tAgg25_LdS) fun v68 hv68 => ?_; cases hv68) <;> (refine cS 69 (cA Tryd.call8 (r07Same_self _ hml)) fun v69 hv69 => ?_; cases hv69) <;> refine xL 70 q_not ?_ <;> refine xL 71 q_pick ?_ <;> refine xL 72 q_move ?_ <;> refine xL 73 q_move ?_ <;> refine xL 74 q_neq ?_ <;> refine xL 75 q_move ?_ <;> (refine bLd 75 (fun hb75 => ?_) (fun hb75 => ?_) <;> (first | refine kL 76 ?_ | refine xL 76 q_move ?_)) <;> (first | refine kL 77 ?_ | refine xL 77 q_neq ?_) <;> refine xL 78 q_pick ?_ <;> refine xL 79 q_pick ?_ <;> refine xL 80 q_move ?_ <;> (first | refine xL 81 q_move ?_ | (refine bLd 80 (fun hb80 => ?_) (fun hb80 => ?_) <;> (first | refine kL 81 ?_ | refine xL 81 q_move ?_))) <;> (first | refine kL 82 ?_ | refine xL 82 q_eql ?_) <;> (first | refine kL 83 ?_ | refine xL 83 q_move ?_) <;> (first | refine kL 84 ?_ | (refine bLd 83 (fun hb83 => ?_) (fun hb83 => ?_) <;> (first | refine kL 84 ?_ | refine xL 84 q_move ?_))) <;> (first | refine kL 85 ?_ | refine xL 85 q_not ?_) <;> (first | refine kL 86 ?_ | refine xL 86 q_pick ?_) <;> refine xL 87 q_pick ?_ <;> refine aL_end (nav ?_) <;> try dsimp only) <;> (
           (first | refine cCd ?_ ?_ | refine cC ?_ ?_) <;> intro hb87
           · first | exact Bool.noConfusion hb87 | (exfalso; rcases h4 with ⟨h4, h5⟩ | h4 <;> first | omega | (rw [h5] at hb87; exact Bool.noConfusion hb87))
           · refine nav ?_
             (refine aC_region ?_ <;> (refine yL 89 (q_ldao 2 tAgg25_LdS) fun v89 hv89 => ?_; cases hv89) <;> (refine yL 90 (q_ldao 3 tAgg25_LdS) fun v90 hv90 => ?_; cases hv90) <;> (refine cPx3 91 (cA Tryd.call7 c5) fun va91 vb91 vc91 hva91 hvb91 hvc91 => ?_; cases hva91; cases hvc91) <;> refine xL 88 q_move ?_ <;> refine xL 92 q_extract ?_ <;> refine xL 93 q_extract ?_ <;> refine xL 94 q_extract ?_ <;> refine xL 14 q_assign ?_ <;> refine xL 15 q_assign ?_ <;> refine xL 16 q_assign ?_ <;> refine aL_end (nav ?_) <;> try dsimp only)
             (refine aC_region ?_ <;> (refine yL 96 (q_ldao 2 tAgg25_LdS) fun v96 hv96 => ?_; cases hv96) <;> (refine yL 97 (q_ldao 3 tAgg25_LdS) fun v97 hv97 => ?_; cases hv97) <;> (refine cPx3 98 (cA Tryd.call9 c6) fun va98 vb98 vc98 hva98 hvb98 hvc98 => ?_; cases hva98; cases hvc98) <;> refine xL 95 q_move ?_ <;> refine xL 99 q_extract ?_ <;> refine xL 100 q_extract ?_ <;> refine xL 101 q_extract ?_ <;> refine xL 17 q_assign ?_ <;> refine xL 18 q_assign ?_ <;> refine xL 19 q_assign ?_ <;> refine aL_end (nav ?_) <;> try dsimp only)
             (refine aC_region ?_ <;> (refine yL 103 (q_ldao 3 tAgg25_LdS) fun v103 hv103 => ?_; cases hv103) <;> (refine yL 104 (q_ldao 2 tAgg25_LdS) fun v104 hv104 => ?_; cases hv104) <;> (refine cPx3 105 (cA Tryd.call9 c7) fun va105 vb105 vc105 hva105 hvb105 hvc105 => ?_; cases hva105; cases hvc105) <;> refine xL 102 q_move ?_ <;> refine xL 106 q_extract ?_ <;> refine xL 107 q_extract ?_ <;> refine xL 108 q_extract ?_ <;> refine xL 20 q_assign ?_ <;> refine xL 21 q_assign ?_ <;> refine xL 22 q_assign ?_ <;> refine aL_end (nav ?_) <;> try dsimp only)
             (refine aC_region ?_ <;> refine xL 109 q_move ?_ <;> refine xL 110 q_neqU ?_ <;> refine aL_end (nav ?_) <;> try dsimp only)
             refine cCf ?_
             refine nav ?_
             (refine aC_region ?_ <;> refine xL 121 q_move ?_ <;> refine xL 122 q_neqU ?_ <;> refine xL 123 q_move ?_ <;> refine xL 124 q_move ?_ <;> refine xL 125 q_neqU ?_ <;> refine xL 126 q_pick ?_ <;> refine xL 127 q_move ?_ <;> refine xL 128 q_move ?_ <;> (refine yL 129 (q_ldao 5 tAgg25_LdS) fun v129 hv129 => ?_; cases hv129) <;> (refine yL 130 (q_ldao 7 tAgg25_LdS) fun v130 hv130 => ?_; cases hv130) <;> (refine cS 131 (cA Tryd.call8 (c8)) fun v131 hv131 => ?_; cases hv131) <;> refine xL 132 (q_bneq Tryd.underlying4) ?_ <;> refine xL 133 q_pick ?_ <;> refine xL 134 q_move ?_ <;> refine xL 135 q_move ?_ <;> refine xL 136 q_move ?_ <;> refine xL 137 q_move ?_ <;> refine xL 138 q_move ?_ <;> refine xL 139 q_pick ?_ <;> refine xL 140 (q_bneq Tryd.underlying4) ?_ <;> refine xL 141 q_pick ?_ <;> refine aL_end (nav ?_) <;> try dsimp only) <;> (
              refine cCf ?_
              refine nav ?_
              (refine aC_region ?_ <;> refine xL 142 q_move ?_ <;> refine xL 143 q_move ?_ <;> refine xL 144 q_move ?_ <;> refine xL 145 q_move ?_ <;> refine xL 146 q_move ?_ <;> refine xL 147 q_move ?_ <;> (refine cS 148 (cA Tryd.call10 (he2)) fun v148 hv148 => ?_; cases hv148) <;> refine xL 149 q_pick ?_ <;> refine xL 150 q_pick ?_ <;> refine xL 151 q_move ?_ <;> refine kL 152 ?_ <;> refine kL 153 ?_ <;> refine kL 154 ?_ <;> refine kL 155 ?_ <;> refine kL 156 ?_ <;> refine kL 157 ?_ <;> refine xL 158 q_pick ?_ <;> refine xL 159 q_move ?_ <;> refine kL 160 ?_ <;> refine kL 161 ?_ <;> refine kL 162 ?_ <;> refine kL 163 ?_ <;> refine kL 164 ?_ <;> refine kL 165 ?_ <;> refine kL 166 ?_ <;> refine kL 167 ?_ <;> refine kL 168 ?_ <;> refine kL 169 ?_ <;> refine kL 170 ?_ <;> refine kL 171 ?_ <;> refine kL 172 ?_ <;> refine kL 173 ?_ <;> refine kL 174 ?_ <;> refine kL 175 ?_ <;> refine kL 176 ?_ <;> refine kL 177 ?_ <;> refine kL 178 ?_ <;> refine kL 179 ?_ <;> refine kL 180 ?_ <;> refine kL 181 ?_ <;> refine kL 182 ?_ <;> refine kL 183 ?_ <;> refine kL 184 ?_ <;> refine kL 185 ?_ <;> refine kL 186 ?_ <;> refine kL 187 ?_ <;> refine kL 188 ?_ <;> refine kL 189 ?_ <;> refine xL 190 q_pick ?_ <;> refine xL 4 q_assign ?_ <;> refine aL_end (nav ?_) <;> try dsimp only) <;> (
               first | exact ret_shr (Tryd.results3) rfl rfl | (refine ret_shr (Tryd.results3) rfl ?_; rw [decide_eq_true (by omega)]) | (exfalso; omega)))))))
set_option maxHeartbeats 4000000 in
theorem autUnique_i (a b m n : Aut) (s : Bool) (wz w u v : List Int) (h : Int) (h4 : h = 0 ∧ s = true ∨ h = 13) (hs : a.syms = b.syms) (hml : m.moves.length ≤ 20000)
 (c1 : AF Tryd.prog 6 [pAut a] (· = .tup [pAut m, pInt 0])) (c2 : AF Tryd.prog 6 [pAut b] (· = .tup [pAut n, pInt 0])) (c3 : AF Tryd.prog 6 [pAut m] (· = .tup [pAut m, pInt 0])) (c4 : AF Tryd.prog 7 [pAut a, pAut m] (· = .tup [pBool s, pInts wz, pInt h]))
 (c5 : AF Tryd.prog 7 [pAut a, pAut b] (· = .tup [pBool false, pInts w, pInt 0])) (c6 : AF Tryd.prog 9 [pAut a, pAut b] (· = .tup [pBool false, pInts u, pInt 0])) (c7 : AF Tryd.prog 9 [pAut b, pAut a] (· = .tup [pBool true, pInts v, pInt 0])) (c8 : AF Tryd.prog 8 [pAut m, pAut n] (· = pBool false)) (he1 : AF Tryd.prog 10 [pInts w, pInts u] (· = pBool true)) : AF Tryd.prog 3 [pAut a, pAut b] (· = pBool true) := by
 refine AF.of_body 191 Tryd.func3 rfl Tryd.ntmps3 (Nat.le_of_ble_eq_true rfl) ?_
 intro w0 M0 vs hl hv
 obtain ⟨v0, v1, rfl⟩ := len2 hl
 clear hl hv
 refine nav ?_
 (refine aC_region ?_ <;> refine s_boxa 2 5 fun h2 => ?_ <;> refine s_boxa 3 5 fun h3 => ?_ <;> refine xL 4 q_assign ?_ <;> refine aL_end (nav ?_) <;> try dsimp only)
 (refine aC_region ?_ <;> (refine cS 23 (cA Tryd.call4 (awake07_e)) fun v23 hv23 => ?_; cases hv23) <;> refine xL 24 q_not ?_ <;> refine aL_end (nav ?_) <;> try dsimp only)
 (first | refine cCd ?_ ?_ | refine cC ?_ ?_) <;> intro hb24
 · first
   | exact Bool.noConfusion hb24
   | (
    refine nav ?_
    (refine aC_region ?_ <;> refine xL 4 q_assign ?_ <;> refine aL_end (nav ?_) <;> try dsimp only)
    exfalso; simp at hb24)
 · first
   | exact Bool.noConfusion hb24
   | (
    refine nav ?_
    (refine aC_region ?_ <;> (refine yL 25 (q_ldao 2 tAgg25_LdS) fun v25 hv25 => ?_; cases hv25) <;> (refine yL 26 (q_ldao 3 tAgg25_LdS) fun v26 hv26 => ?_; cases hv26) <;> (refine s_lita (kk := 5) (xs := [_, _]) (cs := [[_, _, _, _, _], [_, _, _, _, _]]) 27 tEl43_LiA fun h27 ho27 => ?_; refine aL_ent (En.freeze (l := 27) (t := 27) rfl rfl) fun _ => ?_; refine aL_ent (reslot (t := 27) (p' := .sl [a, b].length ([a, b].flatMap cAut)) rfl rfl) fun _ => ?_) <;> (refine cS 28 (cA Tryd.call5 (great07_e [a, b])) fun v28 hv28 => ?_; cases hv28) <;> refine aL_end (nav ?_) <;> try dsimp only)
    (first | refine cCd ?_ ?_ | refine cC ?_ ?_) <;> intro hb28
    · first
      | exact Bool.noConfusion hb28
      | (
       refine nav ?_
       (refine aC_region ?_ <;> refine xL 4 q_assign ?_ <;> refine aL_end (nav ?_) <;> try dsimp only)
       exact ret_shr (Tryd.results3) rfl rfl)
    · first
      | exact Bool.noConfusion hb28
      | (
       refine nav ?_
       (refine aC_region ?_ <;> (refine yL 30 (q_ldao 2 tAgg25_LdS) fun v30 hv30 => ?_; cases hv30) <;> (refine cP 31 (cA Tryd.call6 (c1)) fun va31 vb31 hva31 hvb31 => ?_; cases hvb31) <;> refine xL 29 q_move ?_ <;> refine xL 32 q_extract ?_ <;> refine xL 33 q_extract ?_ <;> refine s_alloc [(.int .i64 0), (.int .i64 0), (.slice none 0 0), (.slice none 0 0), (.slice none 0 0)] 5 5 tZr25_LfD fun h5 => ?_ <;> refine s_sta 5 tAgg25_LdS ?_ <;> refine xL 6 q_assign ?_ <;> refine aL_end (nav ?_) <;> try dsimp only)
       (refine aC_region ?_ <;> (refine yL 35 (q_ldao 3 tAgg25_LdS) fun v35 hv35 => ?_; cases hv35) <;> (refine cP 36 (cA Tryd.call6 (c2)) fun va36 vb36 hva36 hvb36 => ?_; cases hvb36) <;> refine xL 34 q_move ?_ <;> refine xL 37 q_extract ?_ <;> refine xL 38 q_extract ?_ <;> refine s_alloc [(.int .i64 0), (.int .i64 0), (.slice none 0 0), (.slice none 0 0), (.slice none 0 0)] 5 7 tZr25_LfD fun h7 => ?_ <;> refine s_sta 7 tAgg25_LdS ?_ <;> refine xL 8 q_assign ?_ <;> refine aL_end (nav ?_) <;> try dsimp only)
       (refine aC_region ?_ <;> refine xL 39 q_move ?_ <;> refine xL 40 q_neqU ?_ <;> refine xL 41 q_move ?_ <;> refine xL 42 q_move ?_ <;> refine xL 43 q_neqU ?_ <;> refine xL 44 q_pick ?_ <;> refine xL 45 q_move ?_ <;> refine xL 46 (q_fldo 2 tFl25_1_LdI) ?_ <;> (refine yL 47 (q_ldo 2 tNa3_LbB) fun v47 hv47 => ?_; cases hv47) <;> refine xL 48 (q_fldo 3 tFl25_1_LdI) ?_ <;> (refine yL 49 (q_ldo 3 tNa3_LbB) fun v49 hv49 => ?_; cases hv49) <;> refine xL 50 q_neq ?_ <;> refine xL 51 q_pick ?_ <;> refine aL_end (nav ?_) <;> try dsimp only) <;> (
        (first | refine cCd ?_ ?_ | refine cC ?_ ?_) <;> intro hb51
        · first | exact Bool.noConfusion hb51 | (exfalso; omega)
        · refine nav ?_
          (refine aC_region ?_ <;> (refine yL 53 (q_ldao 5 tAgg25_LdS) fun v53 hv53 => ?_; cases hv53) <;> (refine cP 54 (cA Tryd.call6 (c3)) fun va54 vb54 hva54 hvb54 => ?_; cases hvb54) <;> refine xL 52 q_move ?_ <;> refine xL 55 q_extract ?_ <;> refine xL 56 q_extract ?_ <;> refine s_alloc [(.int .i64 0), (.int .i64 0), (.slice none 0 0), (.slice none 0 0), (.slice none 0 0)] 5 9 tZr25_LfD fun h9 => ?_ <;> refine s_sta 9 tAgg25_LdS ?_ <;> refine xL 10 q_assign ?_ <;> refine aL_end (nav ?_) <;> try dsimp only)
          (refine aC_region ?_ <;> (refine yL 58 (q_ldao 2 tAgg25_LdS) fun v58 hv58 => ?_; cases hv58) <;> (refine yL 59 (q_ldao 5 tAgg25_LdS) fun v59 hv59 => ?_; cases hv59) <;> (refine cPx3 60 (cA Tryd.call7 c4) fun va60 vb60 vc60 hva60 hvb60 hvc60 => ?_; cases hva60; cases hvc60) <;> refine xL 57 q_move ?_ <;> refine xL 61 q_extract ?_ <;> refine xL 62 q_extract ?_ <;> refine xL 63 q_extract ?_ <;> refine xL 11 q_assign ?_ <;> refine xL 12 q_assign ?_ <;> refine xL 13 q_assign ?_ <;> refine aL_end (nav ?_) <;> try dsimp only)
          (refine aC_region ?_ <;> refine xL 64 q_move ?_ <;> refine xL 65 q_neqU ?_ <;> refine xL 66 q_move ?_ <;> (refine yL 67 (q_ldao 9 tAgg25_LdS) fun v67 hv67 => ?_; cases hv67) <;> (refine yL 68 (q_ldao 5 tAgg25_LdS) fun v68 hv68 => ?_; cases hv68) <;> (refine cS 69 (cA Tryd.call8 (r07Same_self _ hml)) fun v69 hv69 => ?_; cases hv69) <;> refine xL 70 q_not ?_ <;> refine xL 71 q_pick ?_ <;> refine xL 72 q_move ?_ <;> refine xL 73 q_move ?_ <;> refine xL 74 q_neq ?_ <;> refine xL 75 q_move ?_ <;> (refine bLd 75 (fun hb75 => ?_) (fun hb75 => ?_) <;> (first | refine kL 76 ?_ | refine xL 76 q_move ?_)) <;> (first | refine kL 77 ?_ | refine xL 77 q_neq ?_) <;> refine xL 78 q_pick ?_ <;> refine xL 79 q_pick ?_ <;> refine xL 80 q_move ?_ <;> (first | refine xL 81 q_move ?_ | (refine bLd 80 (fun hb80 => ?_) (fun hb80 => ?_) <;> (first | refine kL 81 ?_ | refine xL 81 q_move ?_))) <;> (first | refine kL 82 ?_ | refine xL 82 q_eql ?_) <;> (first | refine kL 83 ?_ | refine xL 83 q_move ?_) <;> (first | refine kL 84 ?_ | (refine bLd 83 (fun hb83 => ?_) (fun hb83 => ?_) <;> (first | refine kL 84 ?_ | refine xL 84 q_move ?_))) <;> (first | refine kL 85 ?_ | refine xL 85 q_not ?_) <;> (first | refine kL 86 ?_ | refine xL 86 q_pick ?_) <;> refine xL 87 q_pick ?_ <;> refine aL_end (nav ?_) <;> try dsimp only) <;> (
           (first | refine cCd ?_ ?_ | refine cC ?_ ?_) <;> intro hb87
           · first | exact Bool.noConfusion hb87 | (exfalso; rcases h4 with ⟨h4, h5⟩ | h4 <;> first | omega | (rw [h5] at hb87; exact Bool.noConfusion hb87))
           · refine nav ?_
             (refine aC_region ?_ <;> (refine yL 89 (q_ldao 2 tAgg25_LdS) fun v89 hv89 => ?_; cases hv89) <;> (refine yL 90 (q_ldao 3 tAgg25_LdS) fun v90 hv90 => ?_; cases hv90) <;> (refine cPx3 91 (cA Tryd.call7 c5) fun va91 vb91 vc91 hva91 hvb91 hvc91 => ?_; cases hva91; cases hvc91) <;> refine xL 88 q_move ?_ <;> refine xL 92 q_extract ?_ <;> refine xL 93 q_extract ?_ <;> refine xL 94 q_extract ?_ <;> refine xL 14 q_assign ?_ <;> refine xL 15 q_assign ?_ <;> refine xL 16 q_assign ?_ <;> refine aL_end (nav ?_) <;> try dsimp only)
             (refine aC_region ?_ <;> (refine yL 96 (q_ldao 2 tAgg25_LdS) fun v96 hv96 => ?_; cases hv96) <;> (refine yL 97 (q_ldao 3 tAgg25_LdS) fun v97 hv97 => ?_; cases hv97) <;> (refine cPx3 98 (cA Tryd.call9 c6) fun va98 vb98 vc98 hva98 hvb98 hvc98 => ?_; cases hva98; cases hvc98) <;> refine xL 95 q_move ?_ <;> refine xL 99 q_extract ?_ <;> refine xL 100 q_extract ?_ <;> refine xL 101 q_extract ?_ <;> refine xL 17 q_assign ?_ <;> refine xL 18 q_assign ?_ <;> refine xL 19 q_assign ?_ <;> refine aL_end (nav ?_) <;> try dsimp only)
             (refine aC_region ?_ <;> (refine yL 103 (q_ldao 3 tAgg25_LdS) fun v103 hv103 => ?_; cases hv103) <;> (refine yL 104 (q_ldao 2 tAgg25_LdS) fun v104 hv104 => ?_; cases hv104) <;> (refine cPx3 105 (cA Tryd.call9 c7) fun va105 vb105 vc105 hva105 hvb105 hvc105 => ?_; cases hva105; cases hvc105) <;> refine xL 102 q_move ?_ <;> refine xL 106 q_extract ?_ <;> refine xL 107 q_extract ?_ <;> refine xL 108 q_extract ?_ <;> refine xL 20 q_assign ?_ <;> refine xL 21 q_assign ?_ <;> refine xL 22 q_assign ?_ <;> refine aL_end (nav ?_) <;> try dsimp only)
             (refine aC_region ?_ <;> refine xL 109 q_move ?_ <;> refine xL 110 q_neqU ?_ <;> refine aL_end (nav ?_) <;> try dsimp only)
             refine cCf ?_
             refine nav ?_
             (refine aC_region ?_ <;> refine xL 121 q_move ?_ <;> refine xL 122 q_neqU ?_ <;> refine xL 123 q_move ?_ <;> refine xL 124 q_move ?_ <;> refine xL 125 q_neqU ?_ <;> refine xL 126 q_pick ?_ <;> refine xL 127 q_move ?_ <;> refine xL 128 q_move ?_ <;> (refine yL 129 (q_ldao 5 tAgg25_LdS) fun v129 hv129 => ?_; cases hv129) <;> (refine yL 130 (q_ldao 7 tAgg25_LdS) fun v130 hv130 => ?_; cases hv130) <;> (refine cS 131 (cA Tryd.call8 (c8)) fun v131 hv131 => ?_; cases hv131) <;> refine xL 132 (q_bneq Tryd.underlying4) ?_ <;> refine xL 133 q_pick ?_ <;> refine xL 134 q_move ?_ <;> refine xL 135 q_move ?_ <;> refine xL 136 q_move ?_ <;> refine xL 137 q_move ?_ <;> refine kL 138 ?_ <;> refine xL 139 q_pick ?_ <;> refine xL 140 (q_bneq Tryd.underlying4) ?_ <;> refine xL 141 q_pick ?_ <;> refine aL_end (nav ?_) <;> try dsimp only) <;> (
              refine cCf ?_
              refine nav ?_
              (refine aC_region ?_ <;> refine xL 142 q_move ?_ <;> refine xL 143 q_move ?_ <;> refine xL 144 q_move ?_ <;> refine xL 145 q_move ?_ <;> refine kL 146 ?_ <;> refine kL 147 ?_ <;> refine kL 148 ?_ <;> refine xL 149 q_pick ?_ <;> refine xL 150 q_pick ?_ <;> refine xL 151 q_move ?_ <;> refine xL 152 q_move ?_ <;> refine xL 153 q_move ?_ <;> refine xL 154 q_move ?_ <;> refine xL 155 q_move ?_ <;> (refine cS 156 (cA Tryd.call10 (he1)) fun v156 hv156 => ?_; cases hv156) <;> refine xL 157 q_pick ?_ <;> refine xL 158 q_pick ?_ <;> refine xL 159 q_move ?_ <;> refine kL 160 ?_ <;> refine kL 161 ?_ <;> refine kL 162 ?_ <;> refine kL 163 ?_ <;> refine kL 164 ?_ <;> refine kL 165 ?_ <;> refine kL 166 ?_ <;> refine kL 167 ?_ <;> refine kL 168 ?_ <;> refine kL 169 ?_ <;> refine kL 170 ?_ <;> refine kL 171 ?_ <;> refine kL 172 ?_ <;> refine kL 173 ?_ <;> refine kL 174 ?_ <;> refine kL 175 ?_ <;> refine kL 176 ?_ <;> refine kL 177 ?_ <;> refine kL 178 ?_ <;> refine kL 179 ?_ <;> refine kL 180 ?_ <;> refine kL 181 ?_ <;> refine kL 182 ?_ <;> refine kL 183 ?_ <;> refine kL 184 ?_ <;> refine kL 185 ?_ <;> refine kL 186 ?_ <;> refine kL 187 ?_ <;> refine kL 188 ?_ <;> refine kL 189 ?_ <;> refine xL 190 q_pick ?_ <;> refine xL 4 q_assign ?_ <;> refine aL_end (nav ?_) <;> try dsimp only) <;> (
               first | exact ret_shr (Tryd.results3) rfl rfl | (refine ret_shr (Tryd.results3) rfl ?_; rw [decide_eq_true (by omega)]) | (exfalso; omega)))))))
set_option maxHeartbeats 4000000 in
theorem autUnique_u (a b m n : Aut) (s : Bool) (wz w u v : List Int) (h : Int) (h4 : h = 0 ∧ s = true ∨ h = 13) (hs : a.syms = b.syms) (hml : m.moves.length ≤ 20000)
 (c1 : AF Tryd.prog 6 [pAut a] (· = .tup [pAut m, pInt 0])) (c2 : AF Tryd.prog 6 [pAut b] (· = .tup [pAut n, pInt 0])) (c3 : AF Tryd.prog 6 [pAut m] (· = .tup [pAut m, pInt 0])) (c4 : AF Tryd.prog 7 [pAut a, pAut m] (· = .tup [pBool s, pInts wz, pInt h]))
 (c5 : AF Tryd.prog 7 [pAut a, pAut b] (· = .tup [pBool false, pInts w, pInt 0])) (c6 : AF Tryd.prog 9 [pAut a, pAut b] (· = .tup [pBool false, pInts u, pInt 0])) (c7 : AF Tryd.prog 9 [pAut b, pAut a] (· = .tup [pBool false, pInts v, pInt 0])) (c8 : AF Tryd.prog 8 [pAut m, pAut n] (· = pBool false)) (he1 : AF Tryd.prog 10 [pInts w, pInts u] (· = pBool true)) (hl1 : w.length ≤ u.length) (hl2 : w.length ≤ v.length) : AF Tryd.prog 3 [pAut a, pAut b] (· = pBool true) := by
 refine AF.of_body 191 Tryd.func3 rfl Tryd.ntmps3 (Nat.le_of_ble_eq_true rfl) ?_
 intro w0 M0 vs hl hv
 obtain ⟨v0, v1, rfl⟩ := len2 hl
 clear hl hv
 refine nav ?_
 (refine aC_region ?_ <;> refine s_boxa 2 5 fun h2 => ?_ <;> refine s_boxa 3 5 fun h3 => ?_ <;> refine xL 4 q_assign ?_ <;> refine aL_end (nav ?_) <;> try dsimp only)
 (refine aC_region ?_ <;> (refine cS 23 (cA Tryd.call4 (awake07_e)) fun v23 hv23 => ?_; cases hv23) <;> refine xL 24 q_not ?_ <;> refine aL_end (nav ?_) <;> try dsimp only)
 (first | refine cCd ?_ ?_ | refine cC ?_ ?_) <;> intro hb24
 · first
   | exact Bool.noConfusion hb24
   | (
    refine nav ?_
    (refine aC_region ?_ <;> refine xL 4 q_assign ?_ <;> refine aL_end (nav ?_) <;> try dsimp only)
    exfalso; simp at hb24)
 · first
   | exact Bool.noConfusion hb24
   | (
    refine nav ?_
    (refine aC_region ?_ <;> (refine yL 25 (q_ldao 2 tAgg25_LdS) fun v25 hv25 => ?_; cases hv25) <;> (refine yL 26 (q_ldao 3 tAgg25_LdS) fun v26 hv26 => ?_; cases hv26) <;> (refine s_lita (kk := 5) (xs := [_, _]) (cs := [[_, _, _, _, _], [_, _, _, _, _]]) 27 tEl43_LiA fun h27 ho27 => ?_; refine aL_ent (En.freeze (l := 27) (t := 27) rfl rfl) fun _ => ?_; refine aL_ent (reslot (t := 27) (p' := .sl [a, b].length ([a, b].flatMap cAut)) rfl rfl) fun _ => ?_) <;> (refine cS 28 (cA Tryd.call5 (great07_e [a, b])) fun v28 hv28 => ?_; cases hv28) <;> refine aL_end (nav ?_) <;> try dsimp only)
    (first | refine cCd ?_ ?_ | refine cC ?_ ?_) <;> intro hb28
    · first
      | exact Bool.noConfusion hb28
      | (
       refine nav ?_
       (refine aC_region ?_ <;> refine xL 4 q_assign ?_ <;> refine aL_end (nav ?_) <;> try dsimp only)
       exact ret_shr (Tryd.results3) rfl rfl)
    · first
      | exact Bool.noConfusion hb28
      | (
       refine nav ?_
       (refine aC_region ?_ <;> (refine yL 30 (q_ldao 2 tAgg25_LdS) fun v30 hv30 => ?_; cases hv30) <;> (refine cP 31 (cA Tryd.call6 (c1)) fun va31 vb31 hva31 hvb31 => ?_; cases hvb31) <;> refine xL 29 q_move ?_ <;> refine xL 32 q_extract ?_ <;> refine xL 33 q_extract ?_ <;> refine s_alloc [(.int .i64 0), (.int .i64 0), (.slice none 0 0), (.slice none 0 0), (.slice none 0 0)] 5 5 tZr25_LfD fun h5 => ?_ <;> refine s_sta 5 tAgg25_LdS ?_ <;> refine xL 6 q_assign ?_ <;> refine aL_end (nav ?_) <;> try dsimp only)
       (refine aC_region ?_ <;> (refine yL 35 (q_ldao 3 tAgg25_LdS) fun v35 hv35 => ?_; cases hv35) <;> (refine cP 36 (cA Tryd.call6 (c2)) fun va36 vb36 hva36 hvb36 => ?_; cases hvb36) <;> refine xL 34 q_move ?_ <;> refine xL 37 q_extract ?_ <;> refine xL 38 q_extract ?_ <;> refine s_alloc [(.int .i64 0), (.int .i64 0), (.slice none 0 0), (.slice none 0 0), (.slice none 0 0)] 5 7 tZr25_LfD fun h7 => ?_ <;> refine s_sta 7 tAgg25_LdS ?_ <;> refine xL 8 q_assign ?_ <;> refine aL_end (nav ?_) <;> try dsimp only)
       (refine aC_region ?_ <;> refine xL 39 q_move ?_ <;> refine xL 40 q_neqU ?_ <;> refine xL 41 q_move ?_ <;> refine xL 42 q_move ?_ <;> refine xL 43 q_neqU ?_ <;> refine xL 44 q_pick ?_ <;> refine xL 45 q_move ?_ <;> refine xL 46 (q_fldo 2 tFl25_1_LdI) ?_ <;> (refine yL 47 (q_ldo 2 tNa3_LbB) fun v47 hv47 => ?_; cases hv47) <;> refine xL 48 (q_fldo 3 tFl25_1_LdI) ?_ <;> (refine yL 49 (q_ldo 3 tNa3_LbB) fun v49 hv49 => ?_; cases hv49) <;> refine xL 50 q_neq ?_ <;> refine xL 51 q_pick ?_ <;> refine aL_end (nav ?_) <;> try dsimp only) <;> (
        (first | refine cCd ?_ ?_ | refine cC ?_ ?_) <;> intro hb51
        · first | exact Bool.noConfusion hb51 | (exfalso; omega)
        · refine nav ?_
          (refine aC_region ?_ <;> (refine yL 53 (q_ldao 5 tAgg25_LdS) fun v53 hv53 => ?_; cases hv53) <;> (refine cP 54 (cA Tryd.call6 (c3)) fun va54 vb54 hva54 hvb54 => ?_; cases hvb54) <;> refine xL 52 q_move ?_ <;> refine xL 55 q_extract ?_ <;> refine xL 56 q_extract ?_ <;> refine s_alloc [(.int .i64 0), (.int .i64 0), (.slice none 0 0), (.slice none 0 0), (.slice none 0 0)] 5 9 tZr25_LfD fun h9 => ?_ <;> refine s_sta 9 tAgg25_LdS ?_ <;> refine xL 10 q_assign ?_ <;> refine aL_end (nav ?_) <;> try dsimp only)
          (refine aC_region ?_ <;> (refine yL 58 (q_ldao 2 tAgg25_LdS) fun v58 hv58 => ?_; cases hv58) <;> (refine yL 59 (q_ldao 5 tAgg25_LdS) fun v59 hv59 => ?_; cases hv59) <;> (refine cPx3 60 (cA Tryd.call7 c4) fun va60 vb60 vc60 hva60 hvb60 hvc60 => ?_; cases hva60; cases hvc60) <;> refine xL 57 q_move ?_ <;> refine xL 61 q_extract ?_ <;> refine xL 62 q_extract ?_ <;> refine xL 63 q_extract ?_ <;> refine xL 11 q_assign ?_ <;> refine xL 12 q_assign ?_ <;> refine xL 13 q_assign ?_ <;> refine aL_end (nav ?_) <;> try dsimp only)
          (refine aC_region ?_ <;> refine xL 64 q_move ?_ <;> refine xL 65 q_neqU ?_ <;> refine xL 66 q_move ?_ <;> (refine yL 67 (q_ldao 9 tAgg25_LdS) fun v67 hv67 => ?_; cases hv67) <;> (refine yL 68 (q_ldao 5 tAgg25_LdS) fun v68 hv68 => ?_; cases hv68) <;> (refine cS 69 (cA Tryd.call8 (r07Same_self _ hml)) fun v69 hv69 => ?_; cases hv69) <;> refine xL 70 q_not ?_ <;> refine xL 71 q_pick ?_ <;> refine xL 72 q_move ?_ <;> refine xL 73 q_move ?_ <;> refine xL 74 q_neq ?_ <;> refine xL 75 q_move ?_ <;> (refine bLd 75 (fun hb75 => ?_) (fun hb75 => ?_) <;> (first | refine kL 76 ?_ | refine xL 76 q_move ?_)) <;> (first | refine kL 77 ?_ | refine xL 77 q_neq ?_) <;> refine xL 78 q_pick ?_ <;> refine xL 79 q_pick ?_ <;> refine xL 80 q_move ?_ <;> (first | refine xL 81 q_move ?_ | (refine bLd 80 (fun hb80 => ?_) (fun hb80 => ?_) <;> (first | refine kL 81 ?_ | refine xL 81 q_move ?_))) <;> (first | refine kL 82 ?_ | refine xL 82 q_eql ?_) <;> (first | refine kL 83 ?_ | refine xL 83 q_move ?_) <;> (first | refine kL 84 ?_ | (refine bLd 83 (fun hb83 => ?_) (fun hb83 => ?_) <;> (first | refine kL 84 ?_ | refine xL 84 q_move ?_))) <;> (first | refine kL 85 ?_ | refine xL 85 q_not ?_) <;> (first | refine kL 86 ?_ | refine xL 86 q_pick ?_) <;> refine xL 87 q_pick ?_ <;> refine aL_end (nav ?_) <;> try dsimp only) <;> (
           (first | refine cCd ?_ ?_ | refine cC ?_ ?_) <;> intro hb87
           · first | exact Bool.noConfusion hb87 | (exfalso; rcases h4 with ⟨h4, h5⟩ | h4 <;> first | omega | (rw [h5] at hb87; exact Bool.noConfusion hb87))
           · refine nav ?_
             (refine aC_region ?_ <;> (refine yL 89 (q_ldao 2 tAgg25_LdS) fun v89 hv89 => ?_; cases hv89) <;> (refine yL 90 (q_ldao 3 tAgg25_LdS) fun v90 hv90 => ?_; cases hv90) <;> (refine cPx3 91 (cA Tryd.call7 c5) fun va91 vb91 vc91 hva91 hvb91 hvc91 => ?_; cases hva91; cases hvc91) <;> refine xL 88 q_move ?_ <;> refine xL 92 q_extract ?_ <;> refine xL 93 q_extract ?_ <;> refine xL 94 q_extract ?_ <;> refine xL 14 q_assign ?_ <;> refine xL 15 q_assign ?_ <;> refine xL 16 q_assign ?_ <;> refine aL_end (nav ?_) <;> try dsimp only)
             (refine aC_region ?_ <;> (refine yL 96 (q_ldao 2 tAgg25_LdS) fun v96 hv96 => ?_; cases hv96) <;> (refine yL 97 (q_ldao 3 tAgg25_LdS) fun v97 hv97 => ?_; cases hv97) <;> (refine cPx3 98 (cA Tryd.call9 c6) fun va98 vb98 vc98 hva98 hvb98 hvc98 => ?_; cases hva98; cases hvc98) <;> refine xL 95 q_move ?_ <;> refine xL 99 q_extract ?_ <;> refine xL 100 q_extract ?_ <;> refine xL 101 q_extract ?_ <;> refine xL 17 q_assign ?_ <;> refine xL 18 q_assign ?_ <;> refine xL 19 q_assign ?_ <;> refine aL_end (nav ?_) <;> try dsimp only)
             (refine aC_region ?_ <;> (refine yL 103 (q_ldao 3 tAgg25_LdS) fun v103 hv103 => ?_; cases hv103) <;> (refine yL 104 (q_ldao 2 tAgg25_LdS) fun v104 hv104 => ?_; cases hv104) <;> (refine cPx3 105 (cA Tryd.call9 c7) fun va105 vb105 vc105 hva105 hvb105 hvc105 => ?_; cases hva105; cases hvc105) <;> refine xL 102 q_move ?_ <;> refine xL 106 q_extract ?_ <;> refine xL 107 q_extract ?_ <;> refine xL 108 q_extract ?_ <;> refine xL 20 q_assign ?_ <;> refine xL 21 q_assign ?_ <;> refine xL 22 q_assign ?_ <;> refine aL_end (nav ?_) <;> try dsimp only)
             (refine aC_region ?_ <;> refine xL 109 q_move ?_ <;> refine xL 110 q_neqU ?_ <;> refine aL_end (nav ?_) <;> try dsimp only)
             refine cCf ?_
             refine nav ?_
             (refine aC_region ?_ <;> refine xL 121 q_move ?_ <;> refine xL 122 q_neqU ?_ <;> refine xL 123 q_move ?_ <;> refine xL 124 q_move ?_ <;> refine xL 125 q_neqU ?_ <;> refine xL 126 q_pick ?_ <;> refine xL 127 q_move ?_ <;> refine xL 128 q_move ?_ <;> (refine yL 129 (q_ldao 5 tAgg25_LdS) fun v129 hv129 => ?_; cases hv129) <;> (refine yL 130 (q_ldao 7 tAgg25_LdS) fun v130 hv130 => ?_; cases hv130) <;> (refine cS 131 (cA Tryd.call8 (c8)) fun v131 hv131 => ?_; cases hv131) <;> refine xL 132 (q_bneq Tryd.underlying4) ?_ <;> refine xL 133 q_pick ?_ <;> refine xL 134 q_move ?_ <;> refine xL 135 q_move ?_ <;> refine xL 136 q_move ?_ <;> refine xL 137 q_move ?_ <;> refine kL 138 ?_ <;> refine xL 139 q_pick ?_ <;> refine xL 140 (q_bneq Tryd.underlying4) ?_ <;> refine xL 141 q_pick ?_ <;> refine aL_end (nav ?_) <;> try dsimp only) <;> (
              refine cCf ?_
              refine nav ?_
              (refine aC_region ?_ <;> refine xL 142 q_move ?_ <;> refine xL 143 q_move ?_ <;> refine xL 144 q_move ?_ <;> refine xL 145 q_move ?_ <;> refine kL 146 ?_ <;> refine kL 147 ?_ <;> refine kL 148 ?_ <;> refine xL 149 q_pick ?_ <;> refine xL 150 q_pick ?_ <;> refine xL 151 q_move ?_ <;> refine xL 152 q_move ?_ <;> refine xL 153 q_move ?_ <;> refine kL 154 ?_ <;> refine kL 155 ?_ <;> refine kL 156 ?_ <;> refine xL 157 q_pick ?_ <;> refine xL 158 q_pick ?_ <;> refine xL 159 q_move ?_ <;> refine xL 160 q_move ?_ <;> refine xL 161 q_not ?_ <;> refine xL 162 q_move ?_ <;> refine xL 163 q_move ?_ <;> refine xL 164 q_not ?_ <;> refine xL 165 q_pick ?_ <;> refine xL 166 q_move ?_ <;> refine xL 167 q_move ?_ <;> refine xL 168 q_move ?_ <;> (refine cS 169 (cA Tryd.call10 (he1)) fun v169 hv169 => ?_; cases hv169) <;> refine xL 170 q_move ?_ <;> refine kL 171 ?_ <;> refine kL 172 ?_ <;> refine kL 173 ?_ <;> refine xL 174 q_pick ?_ <;> refine xL 175 q_pick ?_ <;> refine xL 176 q_move ?_ <;> refine xL 177 q_move ?_ <;> refine xL 178 (q_len tSl22_LbB) ?_ <;> refine xL 179 q_move ?_ <;> refine xL 180 (q_len tSl22_LbB) ?_ <;> refine xL 181 q_leq ?_ <;> refine xL 182 q_pick ?_ <;> refine xL 183 q_move ?_ <;> (refine bLd 183 (fun hb183 => ?_) (fun hb183 => ?_) <;> (first | refine kL 184 ?_ | refine xL 184 q_move ?_)) <;> (first | refine kL 185 ?_ | refine xL 185 (q_len tSl22_LbB) ?_) <;> (first | refine kL 186 ?_ | refine xL 186 q_move ?_) <;> (first | refine kL 187 ?_ | refine xL 187 (q_len tSl22_LbB) ?_) <;> (first | refine kL 188 ?_ | refine xL 188 q_leq ?_) <;> refine xL 189 q_pick ?_ <;> refine xL 190 q_pick ?_ <;> refine xL 4 q_assign ?_ <;> refine aL_end (nav ?_) <;> try dsimp only) <;> (
               first | exact ret_shr (Tryd.results3) rfl rfl | (refine ret_shr (Tryd.results3) rfl ?_; rw [decide_eq_true (by omega)]) | (exfalso; omega)))))))
set_option maxHeartbeats 4000000 in
theorem autUnique_v (a b m n : Aut) (s : Bool) (wz w u v : List Int) (h : Int) (h4 : h = 0 ∧ s = true ∨ h = 13) (hs : a.syms = b.syms) (hml : m.moves.length ≤ 20000)
 (c1 : AF Tryd.prog 6 [pAut a] (· = .tup [pAut m, pInt 0])) (c2 : AF Tryd.prog 6 [pAut b] (· = .tup [pAut n, pInt 0])) (c3 : AF Tryd.prog 6 [pAut m] (· = .tup [pAut m, pInt 0])) (c4 : AF Tryd.prog 7 [pAut a, pAut m] (· = .tup [pBool s, pInts wz, pInt h]))
 (c5 : AF Tryd.prog 7 [pAut a, pAut b] (· = .tup [pBool false, pInts w, pInt 0])) (c6 : AF Tryd.prog 9 [pAut a, pAut b] (· = .tup [pBool false, pInts u, pInt 0])) (c7 : AF Tryd.prog 9 [pAut b, pAut a] (· = .tup [pBool false, pInts v, pInt 0])) (c8 : AF Tryd.prog 8 [pAut m, pAut n] (· = pBool false)) (he1 : AF Tryd.prog 10 [pInts w, pInts u] (· = pBool false)) (he2 : AF Tryd.prog 10 [pInts w, pInts v] (· = pBool true)) (hl1 : w.length ≤ u.length) (hl2 : w.length ≤ v.length) : AF Tryd.prog 3 [pAut a, pAut b] (· = pBool true) := by
 refine AF.of_body 191 Tryd.func3 rfl Tryd.ntmps3 (Nat.le_of_ble_eq_true rfl) ?_
 intro w0 M0 vs hl hv
 obtain ⟨v0, v1, rfl⟩ := len2 hl
 clear hl hv
 refine nav ?_
 (refine aC_region ?_ <;> refine s_boxa 2 5 fun h2 => ?_ <;> refine s_boxa 3 5 fun h3 => ?_ <;> refine xL 4 q_assign ?_ <;> refine aL_end (nav ?_) <;> try dsimp only)
 (refine aC_region ?_ <;> (refine cS 23 (cA Tryd.call4 (awake07_e)) fun v23 hv23 => ?_; cases hv23) <;> refine xL 24 q_not ?_ <;> refine aL_end (nav ?_) <;> try dsimp only)
 (first | refine cCd ?_ ?_ | refine cC ?_ ?_) <;> intro hb24
 · first
   | exact Bool.noConfusion hb24
   | (
    refine nav ?_
    (refine aC_region ?_ <;> refine xL 4 q_assign ?_ <;> refine aL_end (nav ?_) <;> try dsimp only)
    exfalso; simp at hb24)
 · first
   | exact Bool.noConfusion hb24
   | (
    refine nav ?_
    (refine aC_region ?_ <;> (refine yL 25 (q_ldao 2 tAgg25_LdS) fun v25 hv25 => ?_; cases hv25) <;> (refine yL 26 (q_ldao 3 tAgg25_LdS) fun v26 hv26 => ?_; cases hv26) <;> (refine s_lita (kk := 5) (xs := [_, _]) (cs := [[_, _, _, _, _], [_, _, _, _, _]]) 27 tEl43_LiA fun h27 ho27 => ?_; refine aL_ent (En.freeze (l := 27) (t := 27) rfl rfl) fun _ => ?_; refine aL_ent (reslot (t := 27) (p' := .sl [a, b].length ([a, b].flatMap cAut)) rfl rfl) fun _ => ?_) <;> (refine cS 28 (cA Tryd.call5 (great07_e [a, b])) fun v28 hv28 => ?_; cases hv28) <;> refine aL_end (nav ?_) <;> try dsimp only)
    (first | refine cCd ?_ ?_ | refine cC ?_ ?_) <;> intro hb28
    · first
      | exact Bool.noConfusion hb28
      | (
       refine nav ?_
       (refine aC_region ?_ <;> refine xL 4 q_assign ?_ <;> refine aL_end (nav ?_) <;> try dsimp only)
       exact ret_shr (Tryd.results3) rfl rfl)
    · first
      | exact Bool.noConfusion hb28
      | (
       refine nav ?_
       (refine aC_region ?_ <;> (refine yL 30 (q_ldao 2 tAgg25_LdS) fun v30 hv30 => ?_; cases hv30) <;> (refine cP 31 (cA Tryd.call6 (c1)) fun va31 vb31 hva31 hvb31 => ?_; cases hvb31) <;> refine xL 29 q_move ?_ <;> refine xL 32 q_extract ?_ <;> refine xL 33 q_extract ?_ <;> refine s_alloc [(.int .i64 0), (.int .i64 0), (.slice none 0 0), (.slice none 0 0), (.slice none 0 0)] 5 5 tZr25_LfD fun h5 => ?_ <;> refine s_sta 5 tAgg25_LdS ?_ <;> refine xL 6 q_assign ?_ <;> refine aL_end (nav ?_) <;> try dsimp only)
       (refine aC_region ?_ <;> (refine yL 35 (q_ldao 3 tAgg25_LdS) fun v35 hv35 => ?_; cases hv35) <;> (refine cP 36 (cA Tryd.call6 (c2)) fun va36 vb36 hva36 hvb36 => ?_; cases hvb36) <;> refine xL 34 q_move ?_ <;> refine xL 37 q_extract ?_ <;> refine xL 38 q_extract ?_ <;> refine s_alloc [(.int .i64 0), (.int .i64 0), (.slice none 0 0), (.slice none 0 0), (.slice none 0 0)] 5 7 tZr25_LfD fun h7 => ?_ <;> refine s_sta 7 tAgg25_LdS ?_ <;> refine xL 8 q_assign ?_ <;> refine aL_end (nav ?_) <;> try dsimp only)
       (refine aC_region ?_ <;> refine xL 39 q_move ?_ <;> refine xL 40 q_neqU ?_ <;> refine xL 41 q_move ?_ <;> refine xL 42 q_move ?_ <;> refine xL 43 q_neqU ?_ <;> refine xL 44 q_pick ?_ <;> refine xL 45 q_move ?_ <;> refine xL 46 (q_fldo 2 tFl25_1_LdI) ?_ <;> (refine yL 47 (q_ldo 2 tNa3_LbB) fun v47 hv47 => ?_; cases hv47) <;> refine xL 48 (q_fldo 3 tFl25_1_LdI) ?_ <;> (refine yL 49 (q_ldo 3 tNa3_LbB) fun v49 hv49 => ?_; cases hv49) <;> refine xL 50 q_neq ?_ <;> refine xL 51 q_pick ?_ <;> refine aL_end (nav ?_) <;> try dsimp only) <;> (
        (first | refine cCd ?_ ?_ | refine cC ?_ ?_) <;> intro hb51
        · first | exact Bool.noConfusion hb51 | (exfalso; omega)
        · refine nav ?_
          (refine aC_region ?_ <;> (refine yL 53 (q_ldao 5 tAgg25_LdS) fun v53 hv53 => ?_; cases hv53) <;> (refine cP 54 (cA Tryd.call6 (c3)) fun va54 vb54 hva54 hvb54 => ?_; cases hvb54) <;> refine xL 52 q_move ?_ <;> refine xL 55 q_extract ?_ <;> refine xL 56 q_extract ?_ <;> refine s_alloc [(.int .i64 0), (.int .i64 0), (.slice none 0 0), (.slice none 0 0), (.slice none 0 0)] 5 9 tZr25_LfD fun h9 => ?_ <;> refine s_sta 9 tAgg25_LdS ?_ <;> refine xL 10 q_assign ?_ <;> refine aL_end (nav ?_) <;> try dsimp only)
          (refine aC_region ?_ <;> (refine yL 58 (q_ldao 2 tAgg25_LdS) fun v58 hv58 => ?_; cases hv58) <;> (refine yL 59 (q_ldao 5 tAgg25_LdS) fun v59 hv59 => ?_; cases hv59) <;> (refine cPx3 60 (cA Tryd.call7 c4) fun va60 vb60 vc60 hva60 hvb60 hvc60 => ?_; cases hva60; cases hvc60) <;> refine xL 57 q_move ?_ <;> refine xL 61 q_extract ?_ <;> refine xL 62 q_extract ?_ <;> refine xL 63 q_extract ?_ <;> refine xL 11 q_assign ?_ <;> refine xL 12 q_assign ?_ <;> refine xL 13 q_assign ?_ <;> refine aL_end (nav ?_) <;> try dsimp only)
          (refine aC_region ?_ <;> refine xL 64 q_move ?_ <;> refine xL 65 q_neqU ?_ <;> refine xL 66 q_move ?_ <;> (refine yL 67 (q_ldao 9 tAgg25_LdS) fun v67 hv67 => ?_; cases hv67) <;> (refine yL 68 (q_ldao 5 tAgg25_LdS) fun v68 hv68 => ?_; cases hv68) <;> (refine cS 69 (cA Tryd.call8 (r07Same_self _ hml)) fun v69 hv69 => ?_; cases hv69) <;> refine xL 70 q_not ?_ <;> refine xL 71 q_pick ?_ <;> refine xL 72 q_move ?_ <;> refine xL 73 q_move ?_ <;> refine xL 74 q_neq ?_ <;> refine xL 75 q_move ?_ <;> (refine bLd 75 (fun hb75 => ?_) (fun hb75 => ?_) <;> (first | refine kL 76 ?_ | refine xL 76 q_move ?_)) <;> (first | refine kL 77 ?_ | refine xL 77 q_neq ?_) <;> refine xL 78 q_pick ?_ <;> refine xL 79 q_pick ?_ <;> refine xL 80 q_move ?_ <;> (first | refine xL 81 q_move ?_ | (refine bLd 80 (fun hb80 => ?_) (fun hb80 => ?_) <;> (first | refine kL 81 ?_ | refine xL 81 q_move ?_))) <;> (first | refine kL 82 ?_ | refine xL 82 q_eql ?_) <;> (first | refine kL 83 ?_ | refine xL 83 q_move ?_) <;> (first | refine kL 84 ?_ | (refine bLd 83 (fun hb83 => ?_) (fun hb83 => ?_) <;> (first | refine kL 84 ?_ | refine xL 84 q_move ?_))) <;> (first | refine kL 85 ?_ | refine xL 85 q_not ?_) <;> (first | refine kL 86 ?_ | refine xL 86 q_pick ?_) <;> refine xL 87 q_pick ?_ <;> refine aL_end (nav ?_) <;> try dsimp only) <;> (
           (first | refine cCd ?_ ?_ | refine cC ?_ ?_) <;> intro hb87
           · first | exact Bool.noConfusion hb87 | (exfalso; rcases h4 with ⟨h4, h5⟩ | h4 <;> first | omega | (rw [h5] at hb87; exact Bool.noConfusion hb87))
           · refine nav ?_
             (refine aC_region ?_ <;> (refine yL 89 (q_ldao 2 tAgg25_LdS) fun v89 hv89 => ?_; cases hv89) <;> (refine yL 90 (q_ldao 3 tAgg25_LdS) fun v90 hv90 => ?_; cases hv90) <;> (refine cPx3 91 (cA Tryd.call7 c5) fun va91 vb91 vc91 hva91 hvb91 hvc91 => ?_; cases hva91; cases hvc91) <;> refine xL 88 q_move ?_ <;> refine xL 92 q_extract ?_ <;> refine xL 93 q_extract ?_ <;> refine xL 94 q_extract ?_ <;> refine xL 14 q_assign ?_ <;> refine xL 15 q_assign ?_ <;> refine xL 16 q_assign ?_ <;> refine aL_end (nav ?_) <;> try dsimp only)
             (refine aC_region ?_ <;> (refine yL 96 (q_ldao 2 tAgg25_LdS) fun v96 hv96 => ?_; cases hv96) <;> (refine yL 97 (q_ldao 3 tAgg25_LdS) fun v97 hv97 => ?_; cases hv97) <;> (refine cPx3 98 (cA Tryd.call9 c6) fun va98 vb98 vc98 hva98 hvb98 hvc98 => ?_; cases hva98; cases hvc98) <;> refine xL 95 q_move ?_ <;> refine xL 99 q_extract ?_ <;> refine xL 100 q_extract ?_ <;> refine xL 101 q_extract ?_ <;> refine xL 17 q_assign ?_ <;> refine xL 18 q_assign ?_ <;> refine xL 19 q_assign ?_ <;> refine aL_end (nav ?_) <;> try dsimp only)
             (refine aC_region ?_ <;> (refine yL 103 (q_ldao 3 tAgg25_LdS) fun v103 hv103 => ?_; cases hv103) <;> (refine yL 104 (q_ldao 2 tAgg25_LdS) fun v104 hv104 => ?_; cases hv104) <;> (refine cPx3 105 (cA Tryd.call9 c7) fun va105 vb105 vc105 hva105 hvb105 hvc105 => ?_; cases hva105; cases hvc105) <;> refine xL 102 q_move ?_ <;> refine xL 106 q_extract ?_ <;> refine xL 107 q_extract ?_ <;> refine xL 108 q_extract ?_ <;> refine xL 20 q_assign ?_ <;> refine xL 21 q_assign ?_ <;> refine xL 22 q_assign ?_ <;> refine aL_end (nav ?_) <;> try dsimp only)
             (refine aC_region ?_ <;> refine xL 109 q_move ?_ <;> refine xL 110 q_neqU ?_ <;> refine aL_end (nav ?_) <;> try dsimp only)
             refine cCf ?_
             refine nav ?_
             (refine aC_region ?_ <;> refine xL 121 q_move ?_ <;> refine xL 122 q_neqU ?_ <;> refine xL 123 q_move ?_ <;> refine xL 124 q_move ?_ <;> refine xL 125 q_neqU ?_ <;> refine xL 126 q_pick ?_ <;> refine xL 127 q_move ?_ <;> refine xL 128 q_move ?_ <;> (refine yL 129 (q_ldao 5 tAgg25_LdS) fun v129 hv129 => ?_; cases hv129) <;> (refine yL 130 (q_ldao 7 tAgg25_LdS) fun v130 hv130 => ?_; cases hv130) <;> (refine cS 131 (cA Tryd.call8 (c8)) fun v131 hv131 => ?_; cases hv131) <;> refine xL 132 (q_bneq Tryd.underlying4) ?_ <;> refine xL 133 q_pick ?_ <;> refine xL 134 q_move ?_ <;> refine xL 135 q_move ?_ <;> refine xL 136 q_move ?_ <;> refine xL 137 q_move ?_ <;> refine kL 138 ?_ <;> refine xL 139 q_pick ?_ <;> refine xL 140 (q_bneq Tryd.underlying4) ?_ <;> refine xL 141 q_pick ?_ <;> refine aL_end (nav ?_) <;> try dsimp only) <;> (
              refine cCf ?_
              refine nav ?_
              (refine aC_region ?_ <;> refine xL 142 q_move ?_ <;> refine xL 143 q_move ?_ <;> refine xL 144 q_move ?_ <;> refine xL 145 q_move ?_ <;> refine kL 146 ?_ <;> refine kL 147 ?_ <;> refine kL 148 ?_ <;> refine xL 149 q_pick ?_ <;> refine xL 150 q_pick ?_ <;> refine xL 151 q_move ?_ <;> refine xL 152 q_move ?_ <;> refine xL 153 q_move ?_ <;> refine kL 154 ?_ <;> refine kL 155 ?_ <;> refine kL 156 ?_ <;> refine xL 157 q_pick ?_ <;> refine xL 158 q_pick ?_ <;> refine xL 159 q_move ?_ <;> refine xL 160 q_move ?_ <;> refine xL 161 q_not ?_ <;> refine xL 162 q_move ?_ <;> refine xL 163 q_move ?_ <;> refine xL 164 q_not ?_ <;> refine xL 165 q_pick ?_ <;> refine xL 166 q_move ?_ <;> refine xL 167 q_move ?_ <;> refine xL 168 q_move ?_ <;> (refine cS 169 (cA Tryd.call10 (he1)) fun v169 hv169 => ?_; cases hv169) <;> refine xL 170 q_move ?_ <;> refine xL 171 q_move ?_ <;> refine xL 172 q_move ?_ <;> (refine cS 173 (cA Tryd.call10 (he2)) fun v173 hv173 => ?_; cases hv173) <;> refine xL 174 q_pick ?_ <;> refine xL 175 q_pick ?_ <;> refine xL 176 q_move ?_ <;> refine xL 177 q_move ?_ <;> refine xL 178 (q_len tSl22_LbB) ?_ <;> refine xL 179 q_move ?_ <;> refine xL 180 (q_len tSl22_LbB) ?_ <;> refine xL 181 q_leq ?_ <;> refine xL 182 q_pick ?_ <;> refine xL 183 q_move ?_ <;> (refine bLd 183 (fun hb183 => ?_) (fun hb183 => ?_) <;> (first | refine kL 184 ?_ | refine xL 184 q_move ?_)) <;> (first | refine kL 185 ?_ | refine xL 185 (q_len tSl22_LbB) ?_) <;> (first | refine kL 186 ?_ | refine xL 186 q_move ?_) <;> (first | refine kL 187 ?_ | refine xL 187 (q_len tSl22_LbB) ?_) <;> (first | refine kL 188 ?_ | refine xL 188 q_leq ?_) <;> refine xL 189 q_pick ?_ <;> refine xL 190 q_pick ?_ <;> refine xL 4 q_assign ?_ <;> refine aL_end (nav ?_) <;> try dsimp only) <;> (
               first | exact ret_shr (Tryd.results3) rfl rfl | (refine ret_shr (Tryd.results3) rfl ?_; rw [decide_eq_true (by omega)]) | (exfalso; omega)))))))
theorem autUnique_e (a b : Aut) (_ : fitA a) (_ : fitA b) : AF Tryd.prog 3 [pAut a, pAut b] (· = pBool true) := by
 have c1 := resW_R (aMinimalW_e a)
 have c2 := resW_R (aMinimalW_e b)
 cases hm : minX a with
 | error e => exact autUnique_a a b _ _ _ _ (.inl (by rw [hm]; exact minU_err hm)) c1 c2
 | ok m =>
   cases hn : minX b with
   | error e => exact autUnique_a a b _ _ _ _ (.inr (.inl (by rw [hn]; exact minU_err hn))) c1 c2
   | ok n =>
     by_cases hs : a.syms = b.syms
     · obtain ⟨_, _, h3, _⟩ := minX_ok3 hm
       have hml : m.moves.length ≤ 20000 := h3.aok.ml
       have hml' : n.moves.length ≤ 20000 := (minX_ok3 hn).2.2.1.aok.ml
       have c3 := resW_R (aMinimalW_e m)
       rw [h3.minX] at c3
       rw [hm] at c1
       rw [hn] at c2
       have c4 := aEquivalent_e a m
       have c5 := aEquivalent_e a b
       have c6 := aIncluded_e a b
       have c7 := aIncluded_e b a
       have hU := uniq_three hm hn hs
       obtain ⟨s, wz, h, hx, h4⟩ : ∃ (s : Bool) (wz : List Int) (h : Int), cmpX a m 4 = (s, wz, h) ∧ (h = 0 ∧ s = true ∨ h = 13) := by
        rcases uniq_two hm with ⟨w, h⟩ | ⟨s, w, h⟩
        · exact ⟨_, _, _, h, .inl ⟨rfl, rfl⟩⟩
        · exact ⟨_, _, _, h, .inr rfl⟩
       rw [hx] at c4
       rcases hx5 : cmpX a b 4 with ⟨is, w, i⟩
       rcases hx6 : cmpX a b 3 with ⟨one, u, j⟩
       rcases hx7 : cmpX b a 3 with ⟨two, v, k⟩
       rw [hx5] at c5 hU
       rw [hx6] at c6 hU
       rw [hx7] at c7 hU
       rcases hU with ⟨e1, e2, e3⟩ | ⟨e1, e2, e3, hD, hA, hB⟩
       · dsimp only at e1 e2 e3
         subst e1 e2 e3
         exact autUnique_l a b m n s is one two wz w u v h h4 hs hml c1 c2 c3 c4 c5 c6 c7
       · dsimp only at e1 e2 e3 hD hA hB
         subst e1 e2 e3
         have c8 : AF Tryd.prog 8 [pAut m, pAut n] (· = pBool is) := (r07Same_e m n (by omega) (by omega)).mono fun p hp => by
          rw [hp]; congr 1
          rw [Bool.eq_iff_iff, decide_eq_true_eq]; exact hD.symm
         have eqT : ∀ {x y : List Int}, x = y → AF Tryd.prog 10 [pInts x, pInts y] (· = pBool true) := fun {x y} e => (sEqualInt_e x y).mono fun p hp => by rw [hp, decide_eq_true e]
         have eqF : ∀ {x y : List Int}, ¬ x = y → AF Tryd.prog 10 [pInts x, pInts y] (· = pBool false) := fun {x y} e => (sEqualInt_e x y).mono fun p hp => by rw [hp, decide_eq_false e]
         subst hA
         cases one <;> cases two
         · rcases hB with hB | ⟨hB, _⟩ | ⟨hB, _⟩ | ⟨_, _, hw, l1, l2⟩
           · cases hB
           · cases hB
           · cases hB
           · by_cases hwu : w = u
             · exact autUnique_u a b m n s wz w u v h h4 hs hml c1 c2 c3 c4 c5 c6 c7 c8 (eqT hwu) l1 l2
             · exact autUnique_v a b m n s wz w u v h h4 hs hml c1 c2 c3 c4 c5 c6 c7 c8 (eqF hwu) (eqT (hw.resolve_left hwu)) l1 l2
         · rcases hB with hB | ⟨hB, _⟩ | ⟨_, hB⟩ | ⟨_, hB, _⟩
           · cases hB
           · cases hB
           · exact autUnique_i a b m n s wz w u v h h4 hs hml c1 c2 c3 c4 c5 c6 c7 c8 (eqT hB)
           · cases hB
         · rcases hB with hB | ⟨_, hB⟩ | ⟨hB, _⟩ | ⟨hB, _⟩
           · cases hB
           · exact autUnique_o a b m n s wz w u v h h4 hs hml c1 c2 c3 c4 c5 c6 c7 c8 (eqT hB)
           · cases hB
           · cases hB
         · exact autUnique_t a b m n s wz w u v h h4 hs hml c1 c2 c3 c4 c5 c6 c7 c8 trivial
     · exact autUnique_a a b _ _ _ _ (.inr (.inr hs)) c1 c2
end Go.Proofs.YtgigclnaicbiaaaDoor
