/-
  Walks: automata: Shuffle.
  Walks: automata: Concat.
  Walks: automata: Reverse.
  Walks: automata: Product.
  The law AutomatonLaws: the laws of languages hold.
-/
import Derived.Test.YtgigclnaicbiaaaGreatDoorPk06
import Derived.Test.YtgigclnaicbiaaaGreatDoorPk05
import Derived.Test.YtgigclnaicbiaaaGreatDoorPk04
namespace Go.Proofs.YtgigclnaicbiaaaGreatDoor
open Go.RowKit Go.Cb Go.En
set_option linter.all false
set_option maxRecDepth 100000
theorem mul_bd {x y X Y : Int} (hx : 0 ≤ x ∧ x ≤ X) (hy : 0 ≤ y ∧ y ≤ Y) : 0 ≤ x * y ∧ x * y ≤ X * Y := ⟨Int.mul_nonneg hx.1 hy.1, Int.mul_le_mul hx.2 hy.2 hy.1 (by omega)⟩
def shLk (m : Int) (x : Mv) (j : Nat) : List Mv := (List.range j).map fun j => ⟨x.src * m + (j : Nat), x.dst * m + (j : Nat), x.sym⟩
theorem shLk_snoc (m : Int) (x : Mv) (j : Nat) : shLk m x (j + 1) = shLk m x j ++ [⟨x.src * m + (j : Nat), x.dst * m + (j : Nat), x.sym⟩] := by unfold shLk; rw [List.range_succ, List.map_append]; rfl
def shRk (m : Int) (x : Mv) (i : Nat) : List Mv := (List.range i).map fun i => ⟨(i : Nat) * m + x.src, (i : Nat) * m + x.dst, x.sym⟩
theorem shRk_snoc (m : Int) (x : Mv) (i : Nat) : shRk m x (i + 1) = shRk m x i ++ [⟨(i : Nat) * m + x.src, (i : Nat) * m + x.dst, x.sym⟩] := by unfold shRk; rw [List.range_succ, List.map_append]; rfl
def smA (a b : Aut) (k : Nat) : List Mv := (a.moves.take k).flatMap (shL b.n)
def smB (a b : Aut) (k : Nat) : List Mv := a.moves.flatMap (shL b.n) ++ (b.moves.take k).flatMap (shR a.n b.n)
theorem smA_snoc {a b : Aut} {k : Nat} {x : Mv} (h : a.moves[k]? = some x) : smA a b (k + 1) = smA a b k ++ shLk b.n x b.n.toNat := by unfold smA; rw [take_snoc h, List.flatMap_append, List.flatMap_singleton]; rfl
theorem smB_snoc {a b : Aut} {k : Nat} {x : Mv} (h : b.moves[k]? = some x) : smB a b (k + 1) = smB a b k ++ shRk b.n x a.n.toNat := by unfold smB; rw [take_snoc h, List.flatMap_append, List.flatMap_singleton, List.append_assoc]; rfl
theorem smA_all {a b : Aut} {k : Nat} (h : a.moves.length ≤ k) : smA a b k = smB a b 0 := by unfold smA smB; rw [List.take_of_length_le h]; exact (List.append_nil _).symm
theorem smB_all {a b : Aut} {k : Nat} (h : b.moves.length ≤ k) : smB a b k = (shufA a b).moves := by unfold smB; rw [List.take_of_length_le h]; rfl
theorem shuf_len (a b : Aut) : (shufA a b).moves.length = a.moves.length * b.n.toNat + b.moves.length * a.n.toNat := by
 show (a.moves.flatMap (shL b.n) ++ b.moves.flatMap (shR a.n b.n)).length = _
 rw [List.length_append, flat_len (shL_len b.n), flat_len (shR_len a.n b.n)]
theorem smA_part {a b : Aut} {k j : Nat} (x : Mv) (hk : k < a.moves.length) (hj : j ≤ b.n.toNat) : (smA a b k ++ shLk b.n x j).length ≤ (shufA a b).moves.length := by
 rw [shuf_len]
 unfold smA shLk
 rw [List.length_append, flat_len (shL_len b.n), List.length_take, List.length_map, List.length_range, Nat.min_eq_left (Nat.le_of_lt hk)]
 have h1 : (k + 1) * b.n.toNat ≤ a.moves.length * b.n.toNat := Nat.mul_le_mul_right _ hk
 rw [Nat.succ_mul] at h1
 omega
theorem smB_part {a b : Aut} {k i : Nat} (x : Mv) (hk : k < b.moves.length) (hi : i ≤ a.n.toNat) : (smB a b k ++ shRk b.n x i).length ≤ (shufA a b).moves.length := by
 rw [shuf_len]
 unfold smB shRk
 rw [List.length_append, List.length_append, flat_len (shL_len b.n), flat_len (shR_len a.n b.n), List.length_take, List.length_map, List.length_range, Nat.min_eq_left (Nat.le_of_lt hk)]
 have h1 : (k + 1) * a.n.toNat ≤ b.moves.length * a.n.toNat := Nat.mul_le_mul_right _ hk
 rw [Nat.succ_mul] at h1
 omega
theorem shI_snoc {m : Int} {l k : List Int} {i : Nat} {x : Int} (h : l[i]? = some x) : shI m (l.take (i + 1)) k = shI m (l.take i) k ++ addI (x * m) k := by unfold shI; rw [take_snoc h, List.flatMap_append, List.flatMap_singleton]
theorem shI_len (m : Int) (l k : List Int) : (shI m l k).length = l.length * k.length := flat_len (fun x => addI_len _ _) l
theorem aShuffle_bad (a b : Aut) (e : Int) (he : ¬ e = 0) (hf : AF Tryz.prog 70 [pAut a, pAut b] (· = pInt e)) : AF Tryz.prog 37 [pAut a, pAut b] (· = .tup [rawZ, pInt e]) := by
 refine AF.of_body 162 Tryz.func37 rfl Tryz.ntmps37 (Nat.le_of_ble_eq_true rfl) ?_
 intro w0 M0 vs hl hv
 obtain ⟨v0, v1, rfl⟩ := len2 hl
 clear hl hv
 refine nav ?_
 (refine aC_region ?_ <;> refine s_boxa 2 5 fun h2 => ?_ <;> refine s_boxa 3 5 fun h3 => ?_ <;> refine s_alloc [(.int .i64 0), (.int .i64 0), (.slice none 0 0), (.slice none 0 0), (.slice none 0 0)] 5 4 tZr25_LfD fun h4 => ?_ <;> refine xL 5 q_assign ?_ <;> refine aL_end (nav ?_) <;> try dsimp only)
 (refine aC_region ?_ <;> (refine yL 20 (q_ldao 2 tAgg25_LdS) fun v20 hv20 => ?_; cases hv20) <;> (refine yL 21 (q_ldao 3 tAgg25_LdS) fun v21 hv21 => ?_; cases hv21) <;> (refine cS 22 (cA Tryz.call70 (hf)) fun v22 hv22 => ?_; cases hv22) <;> refine xL 6 q_assign ?_ <;> refine aL_end (nav ?_) <;> try dsimp only)
 (refine aC_region ?_ <;> refine xL 23 q_move ?_ <;> refine xL 24 q_neq ?_ <;> refine aL_end (nav ?_) <;> try dsimp only)
 (first | refine cCd ?_ ?_ | refine cC ?_ ?_) <;> intro hb24
 · refine nav ?_
   (refine aC_region ?_ <;> refine xL 25 (q_build tSt25_LfD) ?_ <;> refine xL 26 q_move ?_ <;> refine s_sta 4 tAgg25_LdS ?_ <;> refine xL 5 q_assign ?_ <;> refine aL_end (nav ?_) <;> try dsimp only)
   exact ret_cs (k := 5) 4 (by kernel_rfl) (Tryz.results37) rfl rfl rfl (Nat.le_of_ble_eq_true rfl) (by decide) rfl rfl
 · exact absurd (by simpa using hb24) he
set_option maxHeartbeats 8000000 in
theorem aShuffle_g (a b : Aut) (hf0 : fitX a b = 0) {p0 p1 p2 p3 p4 : PV} {E : Int} (r5 : R5 p0 p1 p2 p3 p4) (hr : (shufA a b).moves.length ≤ 40000 → AF Tryz.prog 83 [pAut (mkA (shufA a b))] (· = .tup [.agg [p0, p1, p2, p3, p4], pInt E])) : AF Tryz.prog 37 [pAut a, pAut b] (· = if 2000 < a.n * b.n ∨ 40000 < (a.moves.length : Int) * b.n + (b.moves.length : Int) * a.n then .tup [rawZ, pInt 13] else .tup [.agg [p0, p1, p2, p3, p4], pInt E]) := by
 obtain ⟨o0, o1, o2, o3, o4⟩ := r5.o
 obtain ⟨ha, hb, hs⟩ := fit_vok hf0
 have hf := aFit_e a b
 rw [hf0] at hf
 have hn0 := ha.n0
 have hn1 := ha.n1
 have m0 := hb.n0
 have m1 := hb.n1
 have k1 := ha.sl
 have k2 := hb.sl
 have k3 := ha.fl
 have k4 := hb.fl
 have k5 := ha.ml
 have k6 := hb.ml
 have q1 := mul_bd (x := a.n) (y := b.n) ⟨hn0, hn1⟩ ⟨m0, m1⟩
 have q2 := mul_bd (x := (a.moves.length : Int)) (y := b.n) (X := 20000) ⟨by omega, by omega⟩ ⟨m0, m1⟩
 have q3 := mul_bd (x := (b.moves.length : Int)) (y := a.n) (X := 20000) ⟨by omega, by omega⟩ ⟨hn0, hn1⟩
 have eN : ((a.n.toNat : Nat) : Int) = a.n := Int.toNat_of_nonneg hn0
 have eM : ((b.n.toNat : Nat) : Int) = b.n := Int.toNat_of_nonneg m0
 have q4 : (((shufA a b).moves.length : Nat) : Int) = (a.moves.length : Int) * b.n + (b.moves.length : Int) * a.n := by
  rw [shuf_len, Int.natCast_add, Int.natCast_mul, Int.natCast_mul, eN, eM]
 refine AF.of_body 162 Tryz.func37 rfl Tryz.ntmps37 (Nat.le_of_ble_eq_true rfl) ?_
 intro w0 M0 vs hl hv
 obtain ⟨v0, v1, rfl⟩ := len2 hl
 clear hl hv
 refine nav ?_
 (refine aC_region ?_ <;> refine s_boxa 2 5 fun h2 => ?_ <;> refine s_boxa 3 5 fun h3 => ?_ <;> refine s_alloc [(.int .i64 0), (.int .i64 0), (.slice none 0 0), (.slice none 0 0), (.slice none 0 0)] 5 4 tZr25_LfD fun h4 => ?_ <;> refine xL 5 q_assign ?_ <;> refine aL_end (nav ?_) <;> try dsimp only)
 (refine aC_region ?_ <;> (refine yL 20 (q_ldao 2 tAgg25_LdS) fun v20 hv20 => ?_; cases hv20) <;> (refine yL 21 (q_ldao 3 tAgg25_LdS) fun v21 hv21 => ?_; cases hv21) <;> (refine cS 22 (cA Tryz.call70 (hf)) fun v22 hv22 => ?_; cases hv22) <;> refine xL 6 q_assign ?_ <;> refine aL_end (nav ?_) <;> try dsimp only)
 (refine aC_region ?_ <;> refine xL 23 q_move ?_ <;> refine xL 24 q_neq ?_ <;> refine aL_end (nav ?_) <;> try dsimp only)
 (first | refine cCd ?_ ?_ | refine cC ?_ ?_) <;> intro hb24
 · first | omega | exact absurd rfl hb24 | exact Bool.noConfusion hb24
 · refine nav ?_
   (refine aC_draw (fun i => ([] : List Nat).elem i) [2, 3] (by kernel_rfl) ?_ <;> refine xD 0 27 rfl (q_fldo 2 tFl25_0_LdI) ?_ <;> (refine yD 1 28 rfl (q_ldo 2 tNa3_LbB) fun v28 hv28 => ?_; cases hv28) <;> refine xD 2 29 rfl (q_fldo 3 tFl25_0_LdI) ?_ <;> (refine yD 3 30 rfl (q_ldo 3 tNa3_LbB) fun v30 hv30 => ?_; cases hv30) <;> refine xE 4 7 rfl q_assign ?_ <;> refine xE 5 8 rfl q_assign ?_ <;> refine aD_end (by kernel_rfl) (nav ?_) <;> try dsimp only)
   (refine aC_region ?_ <;> refine xL 31 q_move ?_ <;> refine xL 32 q_move ?_ <;> refine xL 33 q_mul ?_ <;> refine xL 34 q_gtr ?_ <;> refine xL 35 q_move ?_ <;> (refine bLd 35 (fun hb35 => ?_) (fun hb35 => ?_) <;> (first | refine kL 36 ?_ | refine xL 36 (q_fldo 2 tFl25_4_LdI) ?_)) <;> (first | refine kL 37 ?_ | (refine yL 37 (q_ldo 2 tNa23_LdI) fun v37 hv37 => ?_; cases hv37)) <;> (first | refine kL 38 ?_ | refine xL 38 (q_len tSl23_LdI) ?_) <;> (first | refine kL 39 ?_ | refine xL 39 q_move ?_) <;> (first | refine kL 40 ?_ | refine xL 40 q_mul ?_) <;> (first | refine kL 41 ?_ | refine xL 41 (q_fldo 3 tFl25_4_LdI) ?_) <;> (first | refine kL 42 ?_ | (refine yL 42 (q_ldo 3 tNa23_LdI) fun v42 hv42 => ?_; cases hv42)) <;> (first | refine kL 43 ?_ | refine xL 43 (q_len tSl23_LdI) ?_) <;> (first | refine kL 44 ?_ | refine xL 44 q_move ?_) <;> (first | refine kL 45 ?_ | refine xL 45 q_mul ?_) <;> (first | refine kL 46 ?_ | refine xL 46 q_add ?_) <;> (first | refine kL 47 ?_ | refine xL 47 q_gtr ?_) <;> refine xL 48 q_pick ?_ <;> refine aL_end (nav ?_) <;> try dsimp only) <;> (
    (first | refine cCd ?_ ?_ | refine cC ?_ ?_) <;> intro hb48
    · first
      | exact Bool.noConfusion hb48
      | (
       refine nav ?_
       (refine aC_region ?_ <;> refine xL 49 (q_build tSt25_LfD) ?_ <;> refine s_sta 4 tAgg25_LdS ?_ <;> refine xL 5 q_assign ?_ <;> refine aL_end (nav ?_) <;> try dsimp only)
       exact ret_cs (k := 5) 4 (by kernel_rfl) (Tryz.results37) rfl rfl rfl (Nat.le_of_ble_eq_true rfl) (by decide) rfl (by rw [if_pos (by omega)]; rfl))
    · first
      | exact Bool.noConfusion hb48
      | (
       refine nav ?_
       have hnl : ¬ 2000 < a.n * b.n ∧ (shufA a b).moves.length ≤ 40000 := by omega
       have hr := hr hnl.2
       have hnm := hnl.1
       have hml := hnl.2
       (refine aC_region ?_ <;> refine xL 50 q_move ?_ <;> refine xL 51 q_move ?_ <;> refine xL 52 q_mul ?_ <;> refine xL 53 (q_fldo 2 tFl25_1_LdI) ?_ <;> (refine yL 54 (q_ldo 2 tNa3_LbB) fun v54 hv54 => ?_; cases hv54) <;> refine xL 55 (q_build tSt25_LfD) ?_ <;> refine s_alloc [(.int .i64 0), (.int .i64 0), (.slice none 0 0), (.slice none 0 0), (.slice none 0 0)] 5 9 tZr25_LfD fun h9 => ?_ <;> refine s_sta 9 tAgg25_LdS ?_ <;> refine aL_end (nav ?_) <;> try dsimp only)
       refine aC_ent (nilCells (l := 9) [pInt (a.n * b.n), pInt a.syms, .own 3 1 0 [], .own 3 1 0 [], .own 72 3 0 []] rfl rfl (fun i p p' h1 h2 => by
        match i with
        | 0 => cases h1; cases h2; exact .inl rfl
        | 1 => cases h1; cases h2; exact .inl rfl
        | 2 => cases h1; cases h2; exact .inr ⟨rfl, _, _, rfl⟩
        | 3 => cases h1; cases h2; exact .inr ⟨rfl, _, _, rfl⟩
        | 4 => cases h1; cases h2; exact .inr ⟨rfl, _, _, rfl⟩
        | i + 5 => simp at h2)) fun _ => ?_
       refine aC_ent (focusO (l := 9) (l' := 302) (j := 2) rfl rfl rfl rfl) fun i => ?_
       obtain ⟨v302, ho302⟩ := i
       dsimp only [List.set]
       refine aC_ent (focusO (l := 9) (l' := 303) (j := 3) rfl rfl rfl rfl) fun i => ?_
       obtain ⟨v303, ho303⟩ := i
       dsimp only [List.set]
       refine aC_ent (focusO (l := 9) (l' := 1000) (j := 4) rfl rfl rfl rfl) fun i => ?_
       obtain ⟨v1000, ho1000⟩ := i
       dsimp only [List.set]
       have qo2 : En.one (PV.val v302) = true := ho302
       have qo3 : En.one (PV.val v303) = true := ho303
       refine aC_ent (recast (l := 1000) (p' := .own 72 3 (smA a b 0).length ((smA a b 0).flatMap cMv)) rfl rfl) fun _ => ?_
       (refine aC_region ?_ <;> refine xL 56 (q_fldo 2 tFl25_4_LdI) ?_ <;> (refine yL 57 (q_ldo 2 tNa23_LdI) fun v57 hv57 => ?_; cases hv57) <;> refine xL 58 (q_len tSl23_LdI) ?_ <;> refine xL 59 q_move ?_ <;> refine aL_end (nav ?_) <;> try dsimp only)
       refine aC_loop (ι := { q : Nat × Value // q.1 ≤ a.moves.length ∧ q.2.oneCell' = true }) (fun k => ⟨[(2, _, _), (3, _, _), (4, _, _), (7, _, _), (8, _, _), (9, _, _), (57, _, _), (58, _, _), (59, .int .i64 k.1.1, pInt k.1.1)], [(2, _, _), (3, _, _), (4, _, _), (302, _, _), (303, _, _), (9, h9, .own 25 5 1 [pInt (a.n * b.n), pInt a.syms, .val v302, .val v303, .val k.1.2]), (1000, k.1.2, .own 72 3 (smA a b k.1.1).length ((smA a b k.1.1).flatMap cMv))]⟩) (fun k => a.moves.length - k.1.1) ⟨(0, v1000), Nat.zero_le _, ho1000⟩ (fun a w H => H.weaken ⟨rfl, rfl, rfl, rfl, rfl, rfl, rfl, rfl, rfl, trivial⟩ ⟨rfl, rfl, rfl, rfl, rfl, rfl, rfl, trivial⟩) ?_
       rintro ⟨⟨c, hI⟩, hc, hIo⟩
       dsimp only
       dsimp only at hc hIo
       have q5 : En.one (PV.val hI) = true := hIo
       refine nav ?_
       (refine aC_region ?_ <;> refine xL 60 q_lss ?_ <;> refine aL_end (nav ?_) <;> try dsimp only)
       (first | refine cCd ?_ ?_ | refine cC ?_ ?_) <;> intro hb60
       · first
         | exact Bool.noConfusion hb60
         | (
          obtain ⟨x, hx⟩ := get_some (show c < a.moves.length by omega)
          have e1 := flat_drop cMv_len a.moves c x hx
          have e2 := flat_fit cMv_len hx
          have hxb := ha.mv x (List.mem_of_getElem? hx)
          have hx1 := mul_bd (x := x.src) (y := b.n) (X := 2000) ⟨hxb.1, by omega⟩ ⟨m0, m1⟩
          have hx2 := mul_bd (x := x.dst) (y := b.n) (X := 2000) ⟨hxb.2.2.1, by omega⟩ ⟨m0, m1⟩
          refine nav ?_
          (refine aC_region ?_ <;> refine xL 61 (q_idxN tSl23_LdI) ?_ <;> (refine yL 62 (q_lda tAgg72_LdI) fun v62 hv62 => ?_; cases hv62) <;> refine s_alloc [(.int .i64 0), (.int .i64 0), (.int .i64 0)] 3 11 tZr72_LdI fun h11 => ?_ <;> refine s_sta 11 tAgg72_LdI ?_ <;> refine aL_end (nav ?_) <;> try dsimp only)
          (refine aC_region ?_ <;> refine xL 63 q_move ?_ <;> refine xL 64 q_move ?_ <;> refine aL_end (nav ?_) <;> try dsimp only)
          refine aC_ent (recast (l := 1000) (p' := .own 72 3 (smA a b c ++ shLk b.n x 0).length ((smA a b c ++ shLk b.n x 0).flatMap cMv)) rfl (by rw [show shLk b.n x 0 = [] from rfl, List.append_nil])) fun _ => ?_
          refine aC_loop (ι := { q : Nat × Value // q.1 ≤ b.n.toNat ∧ q.2.oneCell' = true }) (fun k => ⟨[(2, _, _), (3, _, _), (4, _, _), (7, _, _), (8, _, _), (9, _, _), (11, _, _), (57, _, _), (58, _, _), (59, _, _), (63, _, _), (64, .int .i64 k.1.1, pInt k.1.1)], [(2, _, _), (3, _, _), (4, _, _), (11, _, _), (302, _, _), (303, _, _), (9, h9, .own 25 5 1 [pInt (a.n * b.n), pInt a.syms, .val v302, .val v303, .val k.1.2]), (1000, k.1.2, .own 72 3 (smA a b c ++ shLk b.n x k.1.1).length ((smA a b c ++ shLk b.n x k.1.1).flatMap cMv))]⟩) (fun k => b.n.toNat - k.1.1) ⟨(0, hI), Nat.zero_le _, hIo⟩ (fun a w H => H.weaken ⟨rfl, rfl, rfl, rfl, rfl, rfl, rfl, rfl, rfl, rfl, rfl, rfl, trivial⟩ ⟨rfl, rfl, rfl, rfl, rfl, rfl, rfl, rfl, trivial⟩) ?_
          rintro ⟨⟨j, hJ⟩, hj, hJo⟩
          dsimp only
          dsimp only at hj hJo
          have q6 : En.one (PV.val hJ) = true := hJo
          have hpt := smA_part x (lt_of_get hx) hj
          refine nav ?_
          (refine aC_region ?_ <;> refine xL 65 q_lss ?_ <;> refine aL_end (nav ?_) <;> try dsimp only)
          (first | refine cCd ?_ ?_ | refine cC ?_ ?_) <;> intro hb65
          · first
            | exact Bool.noConfusion hb65
            | (
             refine nav ?_
             (refine aC_region ?_ <;> refine xL 66 q_move ?_ <;> refine xL 12 q_assign ?_ <;> refine aL_end (nav ?_) <;> try dsimp only)
             (refine aC_region ?_ <;> refine xL 67 (q_fldo 9 tFl25_4_LdI) ?_ <;> (refine yL 68 (q_ldo 9 tNa23_LdI) fun v68 hv68 => ?_; cases hv68) <;> refine xL 69 (q_fldo 11 tFl72_0_LdI) ?_ <;> (refine yL 70 (q_ldo 11 tNa3_LbB) fun v70 hv70 => ?_; cases hv70) <;> refine xL 71 q_move ?_ <;> refine xL 72 q_mul ?_ <;> refine xL 73 q_move ?_ <;> refine xL 74 q_add ?_ <;> refine xL 75 (q_fldo 11 tFl72_1_LdI) ?_ <;> (refine yL 76 (q_ldo 11 tNa3_LbB) fun v76 hv76 => ?_; cases hv76) <;> refine xL 77 q_move ?_ <;> refine xL 78 q_mul ?_ <;> refine xL 79 q_move ?_ <;> refine xL 80 q_add ?_ <;> refine xL 81 (q_fldo 11 tFl72_2_LdI) ?_ <;> (refine yL 82 (q_ldo 11 tNa3_LbB) fun v82 hv82 => ?_; cases hv82) <;> refine xL 83 (q_build tSt72_LfD) ?_ <;> refine s_lit1a 84 tEl23_LdR fun h84 ho84 => ?_ <;> (refine s_app 1000 84 85 tEl23_LdR fun h85 ho85 => ?_; refine aL_ent (relabel (l := 85) 1000 rfl rfl) fun _ => ?_; refine aL_ent (recast (l := 1000) rfl ((snoc_mv _ (smA a b c ++ shLk b.n x j) ⟨x.src * b.n + (j : Nat), x.dst * b.n + (j : Nat), x.sym⟩).trans (by rw [List.append_assoc, ← shLk_snoc]))) fun _ => ?_; have q85 : En.one (PV.val h85) = true := ho85) <;> refine xL 86 (q_fldo 9 tFl25_4_LdI) ?_ <;> refine s_st 9 tNa23_LdI tSz23_LdR ?_ <;> refine aL_end (nav ?_) <;> try dsimp only)
             (refine aC_region ?_ <;> refine xL 87 q_add ?_ <;> refine xL 64 q_move ?_ <;> refine aL_end (nav ?_) <;> try dsimp only)
             refine aN_again (
              ⟨(j + 1, h85), by dsimp only; omega, ho85⟩
              ) (by dsimp only; omega) ⟨rfl, rfl, rfl, rfl, rfl, rfl, rfl, rfl, rfl, rfl, rfl, rfl, trivial⟩ ⟨rfl, rfl, rfl, rfl, rfl, rfl, rfl, rfl, trivial⟩)
          · first
            | exact Bool.noConfusion hb65
            | (
             refine aC_ent (recast (l := 1000) (p' := .own 72 3 (smA a b (c + 1)).length ((smA a b (c + 1)).flatMap cMv)) rfl (by rw [show smA a b c ++ shLk b.n x j = smA a b (c + 1) by rw [smA_snoc hx, show j = b.n.toNat by omega]])) fun _ => ?_
             refine nav ?_
             (refine aC_region ?_ <;> refine xL 88 q_add ?_ <;> refine xL 59 q_move ?_ <;> refine aL_end (nav ?_) <;> try dsimp only)
             refine aN_again (
              ⟨(c + 1, hJ), lt_of_get hx, hJo⟩
              ) (by dsimp only; omega) ⟨rfl, rfl, rfl, rfl, rfl, rfl, rfl, rfl, rfl, trivial⟩ ⟨rfl, rfl, rfl, rfl, rfl, rfl, rfl, trivial⟩))
       · first
         | exact Bool.noConfusion hb60
         | (
          rw [smA_all (show a.moves.length ≤ c by omega)]
          refine nav ?_
          (refine aC_region ?_ <;> refine xL 89 (q_fldo 3 tFl25_4_LdI) ?_ <;> (refine yL 90 (q_ldo 3 tNa23_LdI) fun v90 hv90 => ?_; cases hv90) <;> refine xL 91 (q_len tSl23_LdI) ?_ <;> refine xL 92 q_move ?_ <;> refine aL_end (nav ?_) <;> try dsimp only)
          refine aC_loop (ι := { q : Nat × Value // q.1 ≤ b.moves.length ∧ q.2.oneCell' = true }) (fun k => ⟨[(2, _, _), (3, _, _), (4, _, _), (7, _, _), (8, _, _), (9, _, _), (90, _, _), (91, _, _), (92, .int .i64 k.1.1, pInt k.1.1)], [(2, _, _), (3, _, _), (4, _, _), (302, _, _), (303, _, _), (9, h9, .own 25 5 1 [pInt (a.n * b.n), pInt a.syms, .val v302, .val v303, .val k.1.2]), (1000, k.1.2, .own 72 3 (smB a b k.1.1).length ((smB a b k.1.1).flatMap cMv))]⟩) (fun k => b.moves.length - k.1.1) ⟨(0, hI), Nat.zero_le _, hIo⟩ (fun a w H => H.weaken ⟨rfl, rfl, rfl, rfl, rfl, rfl, rfl, rfl, rfl, trivial⟩ ⟨rfl, rfl, rfl, rfl, rfl, rfl, rfl, trivial⟩) ?_
          rintro ⟨⟨u, hU⟩, hu, hUo⟩
          dsimp only
          dsimp only at hu hUo
          have q7 : En.one (PV.val hU) = true := hUo
          refine nav ?_
          (refine aC_region ?_ <;> refine xL 93 q_lss ?_ <;> refine aL_end (nav ?_) <;> try dsimp only)
          (first | refine cCd ?_ ?_ | refine cC ?_ ?_) <;> intro hb93
          · first
            | exact Bool.noConfusion hb93
            | (
             obtain ⟨y, hy⟩ := get_some (show u < b.moves.length by omega)
             have e3 := flat_drop cMv_len b.moves u y hy
             have e4 := flat_fit cMv_len hy
             have hyb := hb.mv y (List.mem_of_getElem? hy)
             refine nav ?_
             (refine aC_region ?_ <;> refine xL 94 (q_idxN tSl23_LdI) ?_ <;> (refine yL 95 (q_lda tAgg72_LdI) fun v95 hv95 => ?_; cases hv95) <;> refine s_alloc [(.int .i64 0), (.int .i64 0), (.int .i64 0)] 3 14 tZr72_LdI fun h14 => ?_ <;> refine s_sta 14 tAgg72_LdI ?_ <;> refine aL_end (nav ?_) <;> try dsimp only)
             (refine aC_region ?_ <;> refine xL 96 q_move ?_ <;> refine xL 97 q_move ?_ <;> refine aL_end (nav ?_) <;> try dsimp only)
             refine aC_ent (recast (l := 1000) (p' := .own 72 3 (smB a b u ++ shRk b.n y 0).length ((smB a b u ++ shRk b.n y 0).flatMap cMv)) rfl (by rw [show shRk b.n y 0 = [] from rfl, List.append_nil])) fun _ => ?_
             refine aC_loop (ι := { q : Nat × Value // q.1 ≤ a.n.toNat ∧ q.2.oneCell' = true }) (fun k => ⟨[(2, _, _), (3, _, _), (4, _, _), (7, _, _), (8, _, _), (9, _, _), (14, _, _), (90, _, _), (91, _, _), (92, _, _), (96, _, _), (97, .int .i64 k.1.1, pInt k.1.1)], [(2, _, _), (3, _, _), (4, _, _), (14, _, _), (302, _, _), (303, _, _), (9, h9, .own 25 5 1 [pInt (a.n * b.n), pInt a.syms, .val v302, .val v303, .val k.1.2]), (1000, k.1.2, .own 72 3 (smB a b u ++ shRk b.n y k.1.1).length ((smB a b u ++ shRk b.n y k.1.1).flatMap cMv))]⟩) (fun k => a.n.toNat - k.1.1) ⟨(0, hU), Nat.zero_le _, hUo⟩ (fun a w H => H.weaken ⟨rfl, rfl, rfl, rfl, rfl, rfl, rfl, rfl, rfl, rfl, rfl, rfl, trivial⟩ ⟨rfl, rfl, rfl, rfl, rfl, rfl, rfl, rfl, trivial⟩) ?_
             rintro ⟨⟨i, hV⟩, hi, hVo⟩
             dsimp only
             dsimp only at hi hVo
             have q8 : En.one (PV.val hV) = true := hVo
             have hpt2 := smB_part y (lt_of_get hy) hi
             have hx3 := mul_bd (x := (i : Int)) (y := b.n) (X := 2000) ⟨by omega, by omega⟩ ⟨m0, m1⟩
             refine nav ?_
             (refine aC_region ?_ <;> refine xL 98 q_lss ?_ <;> refine aL_end (nav ?_) <;> try dsimp only)
             (first | refine cCd ?_ ?_ | refine cC ?_ ?_) <;> intro hb98
             · first
               | exact Bool.noConfusion hb98
               | (
                refine nav ?_
                (refine aC_region ?_ <;> refine xL 99 q_move ?_ <;> refine xL 15 q_assign ?_ <;> refine aL_end (nav ?_) <;> try dsimp only)
                (refine aC_region ?_ <;> refine xL 100 (q_fldo 9 tFl25_4_LdI) ?_ <;> (refine yL 101 (q_ldo 9 tNa23_LdI) fun v101 hv101 => ?_; cases hv101) <;> refine xL 102 q_move ?_ <;> refine xL 103 q_move ?_ <;> refine xL 104 q_mul ?_ <;> refine xL 105 (q_fldo 14 tFl72_0_LdI) ?_ <;> (refine yL 106 (q_ldo 14 tNa3_LbB) fun v106 hv106 => ?_; cases hv106) <;> refine xL 107 q_add ?_ <;> refine xL 108 q_move ?_ <;> refine xL 109 q_move ?_ <;> refine xL 110 q_mul ?_ <;> refine xL 111 (q_fldo 14 tFl72_1_LdI) ?_ <;> (refine yL 112 (q_ldo 14 tNa3_LbB) fun v112 hv112 => ?_; cases hv112) <;> refine xL 113 q_add ?_ <;> refine xL 114 (q_fldo 14 tFl72_2_LdI) ?_ <;> (refine yL 115 (q_ldo 14 tNa3_LbB) fun v115 hv115 => ?_; cases hv115) <;> refine xL 116 (q_build tSt72_LfD) ?_ <;> refine s_lit1a 117 tEl23_LdR fun h117 ho117 => ?_ <;> (refine s_app 1000 117 118 tEl23_LdR fun h118 ho118 => ?_; refine aL_ent (relabel (l := 118) 1000 rfl rfl) fun _ => ?_; refine aL_ent (recast (l := 1000) rfl ((snoc_mv _ (smB a b u ++ shRk b.n y i) ⟨(i : Nat) * b.n + y.src, (i : Nat) * b.n + y.dst, y.sym⟩).trans (by rw [List.append_assoc, ← shRk_snoc]))) fun _ => ?_; have q118 : En.one (PV.val h118) = true := ho118) <;> refine xL 119 (q_fldo 9 tFl25_4_LdI) ?_ <;> refine s_st 9 tNa23_LdI tSz23_LdR ?_ <;> refine aL_end (nav ?_) <;> try dsimp only)
                (refine aC_region ?_ <;> refine xL 120 q_add ?_ <;> refine xL 97 q_move ?_ <;> refine aL_end (nav ?_) <;> try dsimp only)
                refine aN_again (
                 ⟨(i + 1, h118), by dsimp only; omega, ho118⟩
                 ) (by dsimp only; omega) ⟨rfl, rfl, rfl, rfl, rfl, rfl, rfl, rfl, rfl, rfl, rfl, rfl, trivial⟩ ⟨rfl, rfl, rfl, rfl, rfl, rfl, rfl, rfl, trivial⟩)
             · first
               | exact Bool.noConfusion hb98
               | (
                refine aC_ent (recast (l := 1000) (p' := .own 72 3 (smB a b (u + 1)).length ((smB a b (u + 1)).flatMap cMv)) rfl (by rw [show smB a b u ++ shRk b.n y i = smB a b (u + 1) by rw [smB_snoc hy, show i = a.n.toNat by omega]])) fun _ => ?_
                refine nav ?_
                (refine aC_region ?_ <;> refine xL 121 q_add ?_ <;> refine xL 92 q_move ?_ <;> refine aL_end (nav ?_) <;> try dsimp only)
                refine aN_again (
                 ⟨(u + 1, hV), lt_of_get hy, hVo⟩
                 ) (by dsimp only; omega) ⟨rfl, rfl, rfl, rfl, rfl, rfl, rfl, rfl, rfl, trivial⟩ ⟨rfl, rfl, rfl, rfl, rfl, rfl, rfl, trivial⟩))
          · first
            | exact Bool.noConfusion hb93
            | (
             rw [smB_all (show b.moves.length ≤ u by omega)]
             refine nav ?_
             (refine aC_region ?_ <;> refine xL 122 (q_fldo 2 tFl25_2_LdI) ?_ <;> (refine yL 123 (q_ldo 2 tNa22_LdI) fun v123 hv123 => ?_; cases hv123) <;> refine xL 124 (q_len tSl22_LbB) ?_ <;> refine xL 125 q_move ?_ <;> refine aL_end (nav ?_) <;> try dsimp only)
             refine aC_ent (recast (l := 302) (p' := .own 3 1 (shI b.n (a.start.take 0) b.start).length ((shI b.n (a.start.take 0) b.start).map pInt)) rfl rfl) fun _ => ?_
             refine aC_loop (ι := { q : Nat × Value // q.1 ≤ a.start.length ∧ q.2.oneCell' = true }) (fun k => ⟨[(2, _, _), (3, _, _), (4, _, _), (7, _, _), (8, _, _), (9, _, _), (123, _, _), (124, _, _), (125, .int .i64 k.1.1, pInt k.1.1)], [(2, _, _), (3, _, _), (4, _, _), (303, _, _), (1000, _, _), (9, h9, .own 25 5 1 [pInt (a.n * b.n), pInt a.syms, .val k.1.2, .val v303, .val hU]), (302, k.1.2, .own 3 1 (shI b.n (a.start.take k.1.1) b.start).length ((shI b.n (a.start.take k.1.1) b.start).map pInt))]⟩) (fun k => a.start.length - k.1.1) ⟨(0, v302), Nat.zero_le _, ho302⟩ (fun a w H => H.weaken ⟨rfl, rfl, rfl, rfl, rfl, rfl, rfl, rfl, rfl, trivial⟩ ⟨rfl, rfl, rfl, rfl, rfl, rfl, rfl, trivial⟩) ?_
             rintro ⟨⟨s, hS⟩, hs', hSo⟩
             dsimp only
             dsimp only at hs' hSo
             have q9 : En.one (PV.val hS) = true := hSo
             have hSl : (shI b.n (a.start.take s) b.start).length ≤ 2000 * 2000 := by rw [shI_len, List.length_take]; exact Nat.mul_le_mul (by omega) k2
             refine nav ?_
             (refine aC_region ?_ <;> refine xL 126 q_lss ?_ <;> refine aL_end (nav ?_) <;> try dsimp only)
             (first | refine cCd ?_ ?_ | refine cC ?_ ?_) <;> intro hb126
             · first
               | exact Bool.noConfusion hb126
               | (
                obtain ⟨z, hz⟩ := get_some (show s < a.start.length by omega)
                have e5 := map_at (f := pInt) hz
                have hzb := ha.st z (List.mem_of_getElem? hz)
                have hz1 := mul_bd (x := z) (y := b.n) (X := a.n) (Y := b.n) ⟨hzb.1, by omega⟩ ⟨m0, Int.le_refl _⟩
                have hal := addI_len (z * b.n) b.start
                refine nav ?_
                (refine aC_region ?_ <;> refine xL 127 (q_idxN tSl22_LbB) ?_ <;> (refine yL 128 (q_ld tNa3_LbB) fun v128 hv128 => ?_; cases hv128) <;> refine xL 17 q_assign ?_ <;> refine aL_end (nav ?_) <;> try dsimp only)
                (refine aC_draw (fun i => ([10] : List Nat).elem i) [3, 9] (by kernel_rfl) ?_ <;> refine xD 0 129 rfl (q_fldo 9 tFl25_2_LdI) ?_ <;> (refine yD 1 130 rfl (q_ldo 9 tNa22_LdI) fun v130 hv130 => ?_; cases hv130) <;> refine xD 2 131 rfl (q_fldo 3 tFl25_2_LdI) ?_ <;> (refine yD 3 132 rfl (q_ldo 3 tNa22_LdI) fun v132 hv132 => ?_; cases hv132) <;> refine xD 4 133 rfl q_move ?_ <;> refine xE 5 134 rfl q_move ?_ <;> refine xE 6 135 rfl q_mul ?_ <;> (refine aD_one 7 (by kernel_rfl) ?_) <;> (refine aW_run rfl fun w9 M9 N9 DQ back => ?_) <;> (refine cO 136 (cA Tryz.call87 (aShifted_e b.start (z * b.n) (by omega) (by omega) (fun x hx => by have := hb.st x hx; omega))) fun v136 ho136 => ?_; refine aL_ent (En.freeze (l := 136) (t := 136) rfl rfl) fun _ => ?_; rw [share_ints _ _ _ rfl]) <;> refine aL_end (back _ (nrm ?_)) <;> (refine aD_one 8 (by kernel_rfl) ?_) <;> (refine aW_run rfl fun w9 M9 N9 DQ back => ?_) <;> (refine s_apps 302 137 tEl22_LdI (fun h137 ho137 => ?_) (ints_len1 (addI (z * b.n) b.start)) (ints_one (addI (z * b.n) b.start)); have q137 : En.one (PV.val h137) = true := ho137; refine aL_ent (relabel (l := 137) 302 rfl rfl) fun _ => ?_; refine aL_ent (recast (l := 302) rfl ((ints_app _ (shI b.n (a.start.take s) b.start) (addI (z * b.n) b.start)).trans (by rw [← shI_snoc hz]))) fun _ => ?_) <;> refine aL_end (back _ (nrm ?_)) <;> refine xE 9 138 rfl (q_fldo 9 tFl25_2_LdI) ?_ <;> (refine aD_one 10 (by kernel_rfl) ?_) <;> (refine aW_last rfl rfl (by kernel_rfl) fun DQ back => ?_) <;> refine s_st 9 tNa22_LdI tSz22_LdK ?_ <;> refine aL_end (back _ (nav ?_)) <;> try dsimp only)
                (refine aC_region ?_ <;> refine xL 139 q_add ?_ <;> refine xL 125 q_move ?_ <;> refine aL_end (nav ?_) <;> try dsimp only)
                refine aN_again (
                 ⟨(s + 1, h137), lt_of_get hz, ho137⟩
                 ) (by dsimp only; omega) ⟨rfl, rfl, rfl, rfl, rfl, rfl, rfl, rfl, rfl, trivial⟩ ⟨rfl, rfl, rfl, rfl, rfl, rfl, rfl, trivial⟩)
             · first
               | exact Bool.noConfusion hb126
               | (
                rw [List.take_of_length_le (show a.start.length ≤ s by omega)]
                refine nav ?_
                (refine aC_region ?_ <;> refine xL 140 (q_fldo 2 tFl25_3_LdI) ?_ <;> (refine yL 141 (q_ldo 2 tNa22_LdI) fun v141 hv141 => ?_; cases hv141) <;> refine xL 142 (q_len tSl22_LbB) ?_ <;> refine xL 143 q_move ?_ <;> refine aL_end (nav ?_) <;> try dsimp only)
                refine aC_ent (recast (l := 303) (p' := .own 3 1 (shI b.n (a.fin.take 0) b.fin).length ((shI b.n (a.fin.take 0) b.fin).map pInt)) rfl rfl) fun _ => ?_
                refine aC_loop (ι := { q : Nat × Value // q.1 ≤ a.fin.length ∧ q.2.oneCell' = true }) (fun k => ⟨[(2, _, _), (3, _, _), (4, _, _), (7, _, _), (8, _, _), (9, _, _), (141, _, _), (142, _, _), (143, .int .i64 k.1.1, pInt k.1.1)], [(2, _, _), (3, _, _), (4, _, _), (302, _, _), (1000, _, _), (9, h9, .own 25 5 1 [pInt (a.n * b.n), pInt a.syms, .val hS, .val k.1.2, .val hU]), (303, k.1.2, .own 3 1 (shI b.n (a.fin.take k.1.1) b.fin).length ((shI b.n (a.fin.take k.1.1) b.fin).map pInt))]⟩) (fun k => a.fin.length - k.1.1) ⟨(0, v303), Nat.zero_le _, ho303⟩ (fun a w H => H.weaken ⟨rfl, rfl, rfl, rfl, rfl, rfl, rfl, rfl, rfl, trivial⟩ ⟨rfl, rfl, rfl, rfl, rfl, rfl, rfl, trivial⟩) ?_
                rintro ⟨⟨t, hT⟩, ht, hTo⟩
                dsimp only
                dsimp only at ht hTo
                have q10 : En.one (PV.val hT) = true := hTo
                have hTl : (shI b.n (a.fin.take t) b.fin).length ≤ 2000 * 2000 := by rw [shI_len, List.length_take]; exact Nat.mul_le_mul (by omega) k4
                refine nav ?_
                (refine aC_region ?_ <;> refine xL 144 q_lss ?_ <;> refine aL_end (nav ?_) <;> try dsimp only)
                (first | refine cCd ?_ ?_ | refine cC ?_ ?_) <;> intro hb144
                · first
                  | exact Bool.noConfusion hb144
                  | (
                   obtain ⟨z2, hz2⟩ := get_some (show t < a.fin.length by omega)
                   have e6 := map_at (f := pInt) hz2
                   have hzb2 := ha.fi z2 (List.mem_of_getElem? hz2)
                   have hz3 := mul_bd (x := z2) (y := b.n) (X := a.n) (Y := b.n) ⟨hzb2.1, by omega⟩ ⟨m0, Int.le_refl _⟩
                   have hal2 := addI_len (z2 * b.n) b.fin
                   refine nav ?_
                   (refine aC_region ?_ <;> refine xL 145 (q_idxN tSl22_LbB) ?_ <;> (refine yL 146 (q_ld tNa3_LbB) fun v146 hv146 => ?_; cases hv146) <;> refine xL 19 q_assign ?_ <;> refine aL_end (nav ?_) <;> try dsimp only)
                   (refine aC_draw (fun i => ([10] : List Nat).elem i) [3, 9] (by kernel_rfl) ?_ <;> refine xD 0 147 rfl (q_fldo 9 tFl25_3_LdI) ?_ <;> (refine yD 1 148 rfl (q_ldo 9 tNa22_LdI) fun v148 hv148 => ?_; cases hv148) <;> refine xD 2 149 rfl (q_fldo 3 tFl25_3_LdI) ?_ <;> (refine yD 3 150 rfl (q_ldo 3 tNa22_LdI) fun v150 hv150 => ?_; cases hv150) <;> refine xD 4 151 rfl q_move ?_ <;> refine xE 5 152 rfl q_move ?_ <;> refine xE 6 153 rfl q_mul ?_ <;> (refine aD_one 7 (by kernel_rfl) ?_) <;> (refine aW_run rfl fun w9 M9 N9 DQ back => ?_) <;> (refine cO 154 (cA Tryz.call87 (aShifted_e b.fin (z2 * b.n) (by omega) (by omega) (fun x hx => by have := hb.fi x hx; omega))) fun v154 ho154 => ?_; refine aL_ent (En.freeze (l := 154) (t := 154) rfl rfl) fun _ => ?_; rw [share_ints _ _ _ rfl]) <;> refine aL_end (back _ (nrm ?_)) <;> (refine aD_one 8 (by kernel_rfl) ?_) <;> (refine aW_run rfl fun w9 M9 N9 DQ back => ?_) <;> (refine s_apps 303 155 tEl22_LdI (fun h155 ho155 => ?_) (ints_len1 (addI (z2 * b.n) b.fin)) (ints_one (addI (z2 * b.n) b.fin)); have q155 : En.one (PV.val h155) = true := ho155; refine aL_ent (relabel (l := 155) 303 rfl rfl) fun _ => ?_; refine aL_ent (recast (l := 303) rfl ((ints_app _ (shI b.n (a.fin.take t) b.fin) (addI (z2 * b.n) b.fin)).trans (by rw [← shI_snoc hz2]))) fun _ => ?_) <;> refine aL_end (back _ (nrm ?_)) <;> refine xE 9 156 rfl (q_fldo 9 tFl25_3_LdI) ?_ <;> (refine aD_one 10 (by kernel_rfl) ?_) <;> (refine aW_last rfl rfl (by kernel_rfl) fun DQ back => ?_) <;> refine s_st 9 tNa22_LdI tSz22_LdK ?_ <;> refine aL_end (back _ (nav ?_)) <;> try dsimp only)
                   (refine aC_region ?_ <;> refine xL 157 q_add ?_ <;> refine xL 143 q_move ?_ <;> refine aL_end (nav ?_) <;> try dsimp only)
                   refine aN_again (
                    ⟨(t + 1, h155), lt_of_get hz2, ho155⟩
                    ) (by dsimp only; omega) ⟨rfl, rfl, rfl, rfl, rfl, rfl, rfl, rfl, rfl, trivial⟩ ⟨rfl, rfl, rfl, rfl, rfl, rfl, rfl, trivial⟩)
                · first
                  | exact Bool.noConfusion hb144
                  | (
                   rw [List.take_of_length_le (show a.fin.length ≤ t by omega)]
                   refine nav ?_
                   refine aC_ent (freezeCell (l := 9) (l' := 302) (j := 2) rfl rfl rfl rfl) fun _ => ?_
                   refine aC_ent (freezeCell (l := 9) (l' := 303) (j := 3) rfl rfl rfl rfl) fun _ => ?_
                   rw [share_ints _ _ _ rfl, share_ints _ _ _ rfl]
                   (refine aC_region ?_ <;> (refine yL 158 (q_ldao (k := 5) (ps := [pInt (a.n * b.n), pInt a.syms, pInts (shI b.n a.start b.start), pInts (shI b.n a.fin b.fin), PV.val hU]) 9 (by kernel_rfl)) fun v158 hv158 => ?_; cases hv158) <;> (refine aL_heap [(1000, hU, PV.own 72 3 (shufA a b).moves.length ((shufA a b).moves.flatMap cMv)), (2, _, _), (3, _, _), (4, _, _), (9, _, _)] ⟨rfl, rfl, rfl, rfl, rfl, trivial⟩ ?_; refine aL_ch [2, 3, 4, 9] 159 (Tryz.call88) (aMade_d (shufA a b) (by omega) _ hU hUo r5 hr) ?_; rintro _ _ _ ⟨⟨V1, rfl⟩, rfl, rfl⟩) <;> refine xL 160 q_extract ?_ <;> refine xL 161 q_extract ?_ <;> refine s_sta 4 tAgg25_LdS ?_ <;> refine xL 5 q_assign ?_ <;> refine aL_end (nav ?_) <;> try dsimp only)
                   exact ret_cs (k := 5) 4 (by kernel_rfl) (Tryz.results37) rfl rfl rfl (Nat.le_of_ble_eq_true rfl) (by decide) r5.s (by rw [if_neg (by omega)]; rfl)))))))
theorem aShuffle_e (a b : Aut) : AF Tryz.prog 37 [pAut a, pAut b] (· = resW (shufX a b)) := by
 unfold shufX
 by_cases h0 : fitX a b = 0
 · rw [if_neg (fun h => h h0)]
   obtain ⟨ha, hb, hs⟩ := fit_vok h0
   by_cases hl : (shufA a b).moves.length ≤ 40000
   · obtain ⟨p0, p1, p2, p3, p4, E, h5, h2, hr⟩ := aReduced_5 (shufA a b) (by omega) (shuf_pre ha hb hs)
     refine (aShuffle_g a b h0 h5 fun _ => hr).mono fun p hp => ?_
     rw [hp]
     split
     · rfl
     · exact h2.symm
   · refine (aShuffle_g a b h0 R5.raw (E := 13) fun h => absurd h hl).mono fun p hp => ?_
     have h1 := ha.n0
     have h2 := hb.n0
     have q4 : (((shufA a b).moves.length : Nat) : Int) = (a.moves.length : Int) * b.n + (b.moves.length : Int) * a.n := by
      rw [shuf_len, Int.natCast_add, Int.natCast_mul, Int.natCast_mul, Int.toNat_of_nonneg h1, Int.toNat_of_nonneg h2]
     rw [hp, if_pos (.inr (by omega)), if_pos (.inr (by omega))]; rfl
 · rw [if_pos h0]
   exact aShuffle_bad a b _ h0 (aFit_e a b)
def ctM (a b : Aut) (i : Nat) : List Mv := bsM a b ++ epsM a.n (a.fin.take i) b.start
theorem ctM_zero (a b : Aut) : ctM a b 0 = bsM a b := by show bsM a b ++ [] = bsM a b; rw [List.append_nil]
theorem ctM_snoc {a b : Aut} {i : Nat} {f : Int} (h : a.fin[i]? = some f) : ctM a b (i + 1) = ctM a b i ++ epsR a.n f b.start := by unfold ctM; rw [epsM_snoc a.n b.start h, List.append_assoc]
theorem ctM_all (a b : Aut) {i : Nat} (h : a.fin.length ≤ i) : ctM a b i = (catA a b).moves := by unfold ctM; rw [List.take_of_length_le h]; rfl
theorem ct_part {a b : Aut} {i j : Nat} (f : Int) (hi : i < a.fin.length) (hj : j ≤ b.start.length) : (ctM a b i ++ epsR a.n f (b.start.take j)).length ≤ (catA a b).moves.length := by
 rw [cat_len]
 unfold ctM bsM
 rw [List.length_append, List.length_append, List.length_append, addM_len, epsM_len, List.length_take]
 unfold epsR
 rw [List.length_map, List.length_take]
 have h1 : (i + 1) * b.start.length ≤ a.fin.length * b.start.length := Nat.mul_le_mul_right _ hi
 rw [Nat.succ_mul] at h1
 rw [Nat.min_eq_left (Nat.le_of_lt hi), Nat.min_eq_left hj]
 omega
theorem aConcat_bad (a b : Aut) (e : Int) (he : ¬ e = 0) (hf : AF Tryz.prog 70 [pAut a, pAut b] (· = pInt e)) : AF Tryz.prog 42 [pAut a, pAut b] (· = .tup [rawZ, pInt e]) := by
 refine AF.of_body 68 Tryz.func42 rfl Tryz.ntmps42 (Nat.le_of_ble_eq_true rfl) ?_
 intro w0 M0 vs hl hv
 obtain ⟨v0, v1, rfl⟩ := len2 hl
 clear hl hv
 refine nav ?_
 (refine aC_region ?_ <;> refine s_boxa 2 5 fun h2 => ?_ <;> refine s_boxa 3 5 fun h3 => ?_ <;> refine s_alloc [(.int .i64 0), (.int .i64 0), (.slice none 0 0), (.slice none 0 0), (.slice none 0 0)] 5 4 tZr25_LfD fun h4 => ?_ <;> refine xL 5 q_assign ?_ <;> refine aL_end (nav ?_) <;> try dsimp only)
 (refine aC_region ?_ <;> (refine yL 12 (q_ldao 2 tAgg25_LdS) fun v12 hv12 => ?_; cases hv12) <;> (refine yL 13 (q_ldao 3 tAgg25_LdS) fun v13 hv13 => ?_; cases hv13) <;> (refine cS 14 (cA Tryz.call70 (hf)) fun v14 hv14 => ?_; cases hv14) <;> refine xL 6 q_assign ?_ <;> refine aL_end (nav ?_) <;> try dsimp only)
 (refine aC_region ?_ <;> refine xL 15 q_move ?_ <;> refine xL 16 q_neq ?_ <;> refine aL_end (nav ?_) <;> try dsimp only)
 (first | refine cCd ?_ ?_ | refine cC ?_ ?_) <;> intro hb16
 · refine nav ?_
   (refine aC_region ?_ <;> refine xL 17 (q_build tSt25_LfD) ?_ <;> refine xL 18 q_move ?_ <;> refine s_sta 4 tAgg25_LdS ?_ <;> refine xL 5 q_assign ?_ <;> refine aL_end (nav ?_) <;> try dsimp only)
   exact ret_cs (k := 5) 4 (by kernel_rfl) (Tryz.results42) rfl rfl rfl (Nat.le_of_ble_eq_true rfl) (by decide) rfl rfl
 · exact absurd (by simpa using hb16) he
set_option maxHeartbeats 2000000 in
theorem aConcat_g (a b : Aut) (hf0 : fitX a b = 0) {p0 p1 p2 p3 p4 : PV} {E : Int} (r5 : R5 p0 p1 p2 p3 p4) (hr : (catA a b).moves.length ≤ 40001 → AF Tryz.prog 83 [pAut (mkA (catA a b))] (· = .tup [.agg [p0, p1, p2, p3, p4], pInt E])) : AF Tryz.prog 42 [pAut a, pAut b] (fun p => ((catA a b).moves.length ≤ 40001 ∧ p = .tup [.agg [p0, p1, p2, p3, p4], pInt E]) ∨ (20000 < (catA a b).moves.length ∧ p = .tup [rawZ, pInt 13])) := by
 obtain ⟨o0, o1, o2, o3, o4⟩ := r5.o
 obtain ⟨ha, hb, hs⟩ := fit_vok hf0
 have hf := aFit_e a b
 rw [hf0] at hf
 have hn0 := ha.n0
 have hn1 := ha.n1
 have k1 := ha.sl
 have k2 := hb.sl
 have k3 := ha.fl
 have k4 := hb.fl
 have m1 := hb.n1
 have kml := bsM_len ha.toAOk hb.toAOk
 have l2 := addI_len a.n b.fin
 refine AF.of_body 68 Tryz.func42 rfl Tryz.ntmps42 (Nat.le_of_ble_eq_true rfl) ?_
 intro w0 M0 vs hl hv
 obtain ⟨v0, v1, rfl⟩ := len2 hl
 clear hl hv
 refine nav ?_
 (refine aC_region ?_ <;> refine s_boxa 2 5 fun h2 => ?_ <;> refine s_boxa 3 5 fun h3 => ?_ <;> refine s_alloc [(.int .i64 0), (.int .i64 0), (.slice none 0 0), (.slice none 0 0), (.slice none 0 0)] 5 4 tZr25_LfD fun h4 => ?_ <;> refine xL 5 q_assign ?_ <;> refine aL_end (nav ?_) <;> try dsimp only)
 (refine aC_region ?_ <;> (refine yL 12 (q_ldao 2 tAgg25_LdS) fun v12 hv12 => ?_; cases hv12) <;> (refine yL 13 (q_ldao 3 tAgg25_LdS) fun v13 hv13 => ?_; cases hv13) <;> (refine cS 14 (cA Tryz.call70 (hf)) fun v14 hv14 => ?_; cases hv14) <;> refine xL 6 q_assign ?_ <;> refine aL_end (nav ?_) <;> try dsimp only)
 (refine aC_region ?_ <;> refine xL 15 q_move ?_ <;> refine xL 16 q_neq ?_ <;> refine aL_end (nav ?_) <;> try dsimp only)
 (first | refine cCd ?_ ?_ | refine cC ?_ ?_) <;> intro hb16
 · first | omega | exact absurd rfl hb16 | exact Bool.noConfusion hb16
 · refine nav ?_
   (refine aC_region ?_ <;> (refine yL 19 (q_ldao 2 tAgg25_LdS) fun v19 hv19 => ?_; cases hv19) <;> (refine yL 20 (q_ldao 3 tAgg25_LdS) fun v20 hv20 => ?_; cases hv20) <;> (refine aL_ch [2, 3, 4] 21 (Tryz.call93) (aBeside_e a b ha.toAOk hb.toAOk _ _) ?_; rintro V21 _ _ ⟨hM0, hM0o, rfl, rfl⟩; have qM : En.one (PV.val hM0) = true := hM0o) <;> refine s_alloc [(.int .i64 0), (.int .i64 0), (.slice none 0 0), (.slice none 0 0), (.slice none 0 0)] 5 7 tZr25_LfD fun h7 => ?_ <;> refine s_sta 7 tAgg25_LdS ?_ <;> refine aL_end (nav ?_) <;> try dsimp only)
   (refine aC_draw (fun i => ([9, 10, 11] : List Nat).elem i) [2, 3, 7] (by kernel_rfl) ?_ <;> refine xDT 0 22 rfl (q_fldo 2 tFl25_2_LdI) ?_ <;> (refine yDT 1 23 rfl (q_ldo 2 tNa22_LdI) fun v23 hv23 => ?_; cases hv23) <;> refine xDT 3 25 rfl (q_fldo 3 tFl25_3_LdI) ?_ <;> (refine yDT 4 26 rfl (q_ldo 3 tNa22_LdI) fun v26 hv26 => ?_; cases hv26) <;> refine xDT 5 27 rfl (q_fldo 2 tFl25_0_LdI) ?_ <;> (refine yDT 6 28 rfl (q_ldo 2 tNa3_LbB) fun v28 hv28 => ?_; cases hv28) <;> (refine aD_one 2 (by kernel_rfl) ?_) <;> (refine aW_run rfl fun w9 M9 N9 DQ back => ?_) <;> (refine cO 24 (cA Tryz.call51 (cloneIntW_e a.start (by omega))) fun v24 ho24 => ?_; refine aL_ent (En.freeze (l := 24) (t := 24) rfl rfl) fun _ => ?_; rw [share_ints _ _ _ rfl]) <;> refine aL_end (back _ (nrm ?_)) <;> refine xDT 8 30 rfl (q_fldo 7 tFl25_2_LdI) ?_ <;> (refine aD_one 7 (by kernel_rfl) ?_) <;> (refine aW_run rfl fun w9 M9 N9 DQ back => ?_) <;> (refine cO 29 (cA Tryz.call87 (aShifted_e b.fin a.n (by omega) (by omega) (fun x hx => by have := hb.fi x hx; omega))) fun v29 ho29 => ?_; refine aL_ent (En.freeze (l := 29) (t := 29) rfl rfl) fun _ => ?_; rw [share_ints _ _ _ rfl]) <;> refine aL_end (back _ (nrm ?_)) <;> (refine aD_one 9 (by kernel_rfl) ?_) <;> (refine aW_thenZ rfl rfl fun DQ back => ?_) <;> refine s_st 7 tNa22_LdI tSz22_LdK ?_ <;> refine aL_end (back _ ?_) <;> (refine aDZ_one 10 (by kernel_rfl) rfl rfl fun DQ back => ?_) <;> refine xL 31 (q_fldo 7 tFl25_3_LdI) ?_ <;> refine aL_end (back _ ?_) <;> (refine aDZ_one 11 (by kernel_rfl) rfl rfl fun DQ back => ?_) <;> refine s_st 7 tNa22_LdI tSz22_LdK ?_ <;> refine aL_end (back _ ?_) <;> refine aDZ_end (by kernel_rfl) (nav ?_) <;> try dsimp only)
   refine aC_ent (recast (l := 1000) (p' := .own 72 3 (ctM a b 0).length ((ctM a b 0).flatMap cMv)) rfl (by rw [ctM_zero])) fun _ => ?_
   (refine aC_region ?_ <;> refine xL 32 (q_fldo 2 tFl25_3_LdI) ?_ <;> (refine yL 33 (q_ldo 2 tNa22_LdI) fun v33 hv33 => ?_; cases hv33) <;> refine xL 34 (q_len tSl22_LbB) ?_ <;> refine xL 35 q_move ?_ <;> refine aL_end (nav ?_) <;> try dsimp only)
   refine aC_loop (ι := { q : Nat × Value // q.1 ≤ a.fin.length ∧ q.2.oneCell' = true ∧ (ctM a b q.1).length ≤ 40001 }) (fun k => ⟨[(2, _, _), (3, _, _), (4, _, _), (7, _, _), (33, _, _), (34, _, _), (35, .int .i64 k.1.1, pInt k.1.1)], [(2, _, _), (3, _, _), (4, _, _), (7, h7, .own 25 5 1 [pInt (a.n + b.n), pInt a.syms, pInts a.start, pInts (addI a.n b.fin), .val k.1.2]), (1000, k.1.2, .own 72 3 (ctM a b k.1.1).length ((ctM a b k.1.1).flatMap cMv))]⟩) (fun k => a.fin.length - k.1.1) ⟨(0, hM0), Nat.zero_le _, hM0o, by show (ctM a b 0).length ≤ 40001; rw [ctM_zero]; omega⟩ (fun a w H => H.weaken ⟨rfl, rfl, rfl, rfl, rfl, rfl, rfl, trivial⟩ ⟨rfl, rfl, rfl, rfl, rfl, trivial⟩) ?_
   rintro ⟨⟨i, hI⟩, hi, hIo, hIl⟩
   dsimp only
   dsimp only at hi hIo hIl
   have q5 : En.one (PV.val hI) = true := hIo
   refine nav ?_
   (refine aC_region ?_ <;> refine xL 36 q_lss ?_ <;> refine aL_end (nav ?_) <;> try dsimp only)
   (first | refine cCd ?_ ?_ | refine cC ?_ ?_) <;> intro hb36
   · first
     | exact Bool.noConfusion hb36
     | (
      obtain ⟨f, hf⟩ := get_some (show i < a.fin.length by omega)
      have e1 := map_at (f := pInt) hf
      have hfin := ha.fi f (List.mem_of_getElem? hf)
      refine nav ?_
      (refine aC_region ?_ <;> refine xL 37 (q_idxN tSl22_LbB) ?_ <;> (refine yL 38 (q_ld tNa3_LbB) fun v38 hv38 => ?_; cases hv38) <;> refine xL 9 q_assign ?_ <;> refine aL_end (nav ?_) <;> try dsimp only)
      (refine aC_region ?_ <;> refine xL 39 (q_fldo 3 tFl25_2_LdI) ?_ <;> (refine yL 40 (q_ldo 3 tNa22_LdI) fun v40 hv40 => ?_; cases hv40) <;> refine xL 41 (q_len tSl22_LbB) ?_ <;> refine xL 42 q_move ?_ <;> refine aL_end (nav ?_) <;> try dsimp only)
      refine aC_ent (recast (l := 1000) (p' := .own 72 3 (ctM a b i ++ epsR a.n f (b.start.take 0)).length ((ctM a b i ++ epsR a.n f (b.start.take 0)).flatMap cMv)) rfl (by rw [show epsR a.n f (b.start.take 0) = [] from rfl, List.append_nil])) fun _ => ?_
      refine aC_loop (ι := { q : Nat × Value // q.1 ≤ b.start.length ∧ q.2.oneCell' = true ∧ (ctM a b i ++ epsR a.n f (b.start.take q.1)).length ≤ 40001 }) (fun k => ⟨[(2, _, _), (3, _, _), (4, _, _), (7, _, _), (9, _, _), (33, _, _), (34, _, _), (35, _, _), (40, _, _), (41, _, _), (42, .int .i64 k.1.1, pInt k.1.1)], [(2, _, _), (3, _, _), (4, _, _), (7, h7, .own 25 5 1 [pInt (a.n + b.n), pInt a.syms, pInts a.start, pInts (addI a.n b.fin), .val k.1.2]), (1000, k.1.2, .own 72 3 (ctM a b i ++ epsR a.n f (b.start.take k.1.1)).length ((ctM a b i ++ epsR a.n f (b.start.take k.1.1)).flatMap cMv))]⟩) (fun k => b.start.length - k.1.1) ⟨(0, hI), Nat.zero_le _, hIo, by show (ctM a b i ++ []).length ≤ 40001; rw [List.append_nil]; exact hIl⟩ (fun a w H => H.weaken ⟨rfl, rfl, rfl, rfl, rfl, rfl, rfl, rfl, rfl, rfl, rfl, trivial⟩ ⟨rfl, rfl, rfl, rfl, rfl, trivial⟩) ?_
      rintro ⟨⟨j, hJ⟩, hj, hJo, hJl⟩
      dsimp only
      dsimp only at hj hJo hJl
      have q6 : En.one (PV.val hJ) = true := hJo
      refine nav ?_
      (refine aC_region ?_ <;> refine xL 43 q_lss ?_ <;> refine aL_end (nav ?_) <;> try dsimp only)
      (first | refine cCd ?_ ?_ | refine cC ?_ ?_) <;> intro hb43
      · first
        | exact Bool.noConfusion hb43
        | (
         obtain ⟨s, hs⟩ := get_some (show j < b.start.length by omega)
         have e2 := map_at (f := pInt) hs
         have hsin := hb.st s (List.mem_of_getElem? hs)
         have hpart := ct_part f (by omega : i < a.fin.length) hj
         refine nav ?_
         (refine aC_region ?_ <;> refine xL 44 (q_idxN tSl22_LbB) ?_ <;> (refine yL 45 (q_ld tNa3_LbB) fun v45 hv45 => ?_; cases hv45) <;> refine xL 11 q_assign ?_ <;> refine aL_end (nav ?_) <;> try dsimp only)
         (refine aC_region ?_ <;> refine xL 46 (q_fldo 7 tFl25_4_LdI) ?_ <;> (refine yL 47 (q_ldo 7 tNa23_LdI) fun v47 hv47 => ?_; cases hv47) <;> refine xL 48 (q_leno 1000 tSl23_LdI) ?_ <;> refine xL 49 q_gtr ?_ <;> refine aL_end (nav ?_) <;> try dsimp only)
         (first | refine cCd ?_ ?_ | refine cC ?_ ?_) <;> intro hb49
         · first
           | exact Bool.noConfusion hb49
           | (
            refine nav ?_
            (refine aC_region ?_ <;> refine xL 50 (q_build tSt25_LfD) ?_ <;> refine s_sta 4 tAgg25_LdS ?_ <;> refine xL 5 q_assign ?_ <;> refine aL_end (nav ?_) <;> try dsimp only)
            exact ret_cs (k := 5) 4 (by kernel_rfl) (Tryz.results42) rfl rfl rfl (Nat.le_of_ble_eq_true rfl) (by decide) rfl (.inr ⟨by omega, rfl⟩))
         · first
           | exact Bool.noConfusion hb49
           | (
            refine nav ?_
            (refine aC_region ?_ <;> refine xL 51 (q_fldo 7 tFl25_4_LdI) ?_ <;> (refine yL 52 (q_ldo 7 tNa23_LdI) fun v52 hv52 => ?_; cases hv52) <;> refine xL 53 q_move ?_ <;> refine xL 54 q_move ?_ <;> refine xL 55 (q_fldo 2 tFl25_0_LdI) ?_ <;> (refine yL 56 (q_ldo 2 tNa3_LbB) fun v56 hv56 => ?_; cases hv56) <;> refine xL 57 q_add ?_ <;> refine xL 58 (q_build tSt72_LfD) ?_ <;> refine s_lit1a 59 tEl23_LdR fun h59 ho59 => ?_ <;> (refine s_app 1000 59 60 tEl23_LdR fun h60 ho60 => ?_; refine aL_ent (relabel (l := 60) 1000 rfl rfl) fun _ => ?_; refine aL_ent (recast (l := 1000) rfl ((snoc_mv _ (ctM a b i ++ epsR a.n f (b.start.take j)) ⟨f, s + a.n, -1⟩).trans (by rw [List.append_assoc, ← epsR_snoc a.n f hs]))) fun _ => ?_; have q60 : En.one (PV.val h60) = true := ho60) <;> refine xL 61 (q_fldo 7 tFl25_4_LdI) ?_ <;> refine s_st 7 tNa23_LdI tSz23_LdR ?_ <;> refine aL_end (nav ?_) <;> try dsimp only)
            (refine aC_region ?_ <;> refine xL 62 q_add ?_ <;> refine xL 42 q_move ?_ <;> refine aL_end (nav ?_) <;> try dsimp only)
            have hl3 : (ctM a b i ++ epsR a.n f (b.start.take (j + 1))).length ≤ 40001 := by rw [epsR_snoc a.n f hs, ← List.append_assoc, List.length_append, List.length_singleton]; omega
            refine aN_again (
             ⟨(j + 1, h60), lt_of_get hs, ho60, hl3⟩
             ) (by dsimp only; omega) ⟨rfl, rfl, rfl, rfl, rfl, rfl, rfl, rfl, rfl, rfl, rfl, trivial⟩ ⟨rfl, rfl, rfl, rfl, rfl, trivial⟩))
      · first
        | exact Bool.noConfusion hb43
        | (
         have hctS : ctM a b i ++ epsR a.n f (b.start.take j) = ctM a b (i + 1) := by rw [List.take_of_length_le (show b.start.length ≤ j by omega), ctM_snoc hf]
         rw [hctS] at hJl
         refine aC_ent (recast (l := 1000) (p' := .own 72 3 (ctM a b (i + 1)).length ((ctM a b (i + 1)).flatMap cMv)) rfl (by rw [hctS])) fun _ => ?_
         refine nav ?_
         (refine aC_region ?_ <;> refine xL 63 q_add ?_ <;> refine xL 35 q_move ?_ <;> refine aL_end (nav ?_) <;> try dsimp only)
         refine aN_again (
          ⟨(i + 1, hJ), lt_of_get hf, hJo, hJl⟩
          ) (by dsimp only; omega) ⟨rfl, rfl, rfl, rfl, rfl, rfl, rfl, trivial⟩ ⟨rfl, rfl, rfl, rfl, rfl, trivial⟩))
   · first
     | exact Bool.noConfusion hb36
     | (
      have hctA := ctM_all a b (show a.fin.length ≤ i by omega)
      rw [hctA] at hIl
      have hr := hr hIl
      refine aC_ent (recast (l := 1000) (p' := .own 72 3 (catA a b).moves.length ((catA a b).moves.flatMap cMv)) rfl (by rw [hctA])) fun _ => ?_
      refine nav ?_
      (refine aC_region ?_ <;> (refine yL 64 (q_ldao (k := 5) (ps := [pInt (a.n + b.n), pInt a.syms, pInts a.start, pInts (addI a.n b.fin), PV.val hI]) 7 (by kernel_rfl)) fun v64 hv64 => ?_; cases hv64) <;> (refine aL_heap [(1000, hI, PV.own 72 3 (catA a b).moves.length ((catA a b).moves.flatMap cMv)), (2, _, _), (3, _, _), (4, _, _), (7, _, _)] ⟨rfl, rfl, rfl, rfl, rfl, trivial⟩ ?_; refine aL_ch [2, 3, 4, 7] 65 (Tryz.call88) (aMade_g (catA a b) (by omega) (cat_nodup ha hb) _ hI hIo r5 hr) ?_; rintro _ _ _ ⟨⟨V1, rfl⟩, rfl, rfl⟩) <;> refine xL 66 q_extract ?_ <;> refine xL 67 q_extract ?_ <;> refine s_sta 4 tAgg25_LdS ?_ <;> refine xL 5 q_assign ?_ <;> refine aL_end (nav ?_) <;> try dsimp only)
      exact ret_cs (k := 5) 4 (by kernel_rfl) (Tryz.results42) rfl rfl rfl (Nat.le_of_ble_eq_true rfl) (by decide) r5.s (.inl ⟨hIl, rfl⟩))
theorem aConcat_e (a b : Aut) : AF Tryz.prog 42 [pAut a, pAut b] (· = resW (catX a b)) := by
 unfold catX
 by_cases h0 : fitX a b = 0
 · rw [if_neg (fun h => h h0)]
   obtain ⟨ha, hb, hs⟩ := fit_vok h0
   have h13 : 20000 < (catA a b).moves.length → madeX (catA a b) = .error 13 := fun h => by
    rw [catX_fin ha hb hs, doneX_cat ha hb (.inr (by rw [← cat_len]; exact h))]
   rcases Nat.lt_or_ge 40001 (catA a b).moves.length with hl | hl
   · refine (aConcat_g a b h0 R5.raw (E := 13) fun h => by omega).mono fun p hp => ?_
     rw [h13 (by omega)]
     rcases hp with ⟨h, _⟩ | ⟨_, h⟩
     · omega
     · exact h
   · obtain ⟨p0, p1, p2, p3, p4, E, h5, h2, hr⟩ := aReduced_5 (catA a b) (by omega) (cat_pre ha hb hs)
     refine (aConcat_g a b h0 h5 fun _ => hr).mono fun p hp => ?_
     rcases hp with ⟨_, h⟩ | ⟨hl2, h⟩
     · rw [h2]; exact h
     · rw [h13 hl2]; exact h
 · rw [if_pos h0]
   exact aConcat_bad a b _ h0 (aFit_e a b)
theorem aReverse_bad (a : Aut) (hv : autOk a = false) : AF Tryz.prog 46 [pAut a] (· = .tup [rawZ, pInt 1]) := by
 refine AF.of_body 46 Tryz.func46 rfl Tryz.ntmps46 (Nat.le_of_ble_eq_true rfl) ?_
 intro w0 M0 vs hl hv
 obtain ⟨v0, rfl⟩ := len1 hl
 clear hl hv
 refine nav ?_
 (refine aC_region ?_ <;> refine s_boxa 1 5 fun h1 => ?_ <;> refine s_alloc [(.int .i64 0), (.int .i64 0), (.slice none 0 0), (.slice none 0 0), (.slice none 0 0)] 5 2 tZr25_LfD fun h2 => ?_ <;> refine xL 3 q_assign ?_ <;> refine aL_end (nav ?_) <;> try dsimp only)
 (refine aC_region ?_ <;> (refine yL 7 (q_ldao 1 tAgg25_LdS) fun v7 hv7 => ?_; cases hv7) <;> (refine cS 8 (cA Tryz.call24 (aValid_e a)) fun v8 hv8 => ?_; cases hv8) <;> refine xL 9 q_not ?_ <;> refine aL_end (nav ?_) <;> try dsimp only)
 (first | refine cCd ?_ ?_ | refine cC ?_ ?_) <;> intro hb9
 · refine nav ?_
   (refine aC_region ?_ <;> refine xL 10 (q_build tSt25_LfD) ?_ <;> refine s_sta 2 tAgg25_LdS ?_ <;> refine xL 3 q_assign ?_ <;> refine aL_end (nav ?_) <;> try dsimp only)
   exact ret_cs (k := 5) 2 (by kernel_rfl) (Tryz.results46) rfl rfl rfl (Nat.le_of_ble_eq_true rfl) (by decide) rfl rfl
 · rw [hv] at hb9; simp at hb9
set_option maxHeartbeats 1000000 in
theorem aReverse_g (a : Aut) (hv : autOk a = true) {p0 p1 p2 p3 p4 : PV} {E : Int} (r5 : R5 p0 p1 p2 p3 p4) (hr : AF Tryz.prog 83 [pAut (mkA (revA a))] (· = .tup [.agg [p0, p1, p2, p3, p4], pInt E])) : AF Tryz.prog 46 [pAut a] (· = .tup [.agg [p0, p1, p2, p3, p4], pInt E]) := by
 obtain ⟨o0, o1, o2, o3, o4⟩ := r5.o
 have h := vok_of hv
 have hn0 := h.n0
 have hn1 := h.n1
 have hml := h.ml
 have hsl := h.sl
 have hfl := h.fl
 refine AF.of_body 46 Tryz.func46 rfl Tryz.ntmps46 (Nat.le_of_ble_eq_true rfl) ?_
 intro w0 M0 vs hl hv
 obtain ⟨v0, rfl⟩ := len1 hl
 clear hl hv
 refine nav ?_
 (refine aC_region ?_ <;> refine s_boxa 1 5 fun h1 => ?_ <;> refine s_alloc [(.int .i64 0), (.int .i64 0), (.slice none 0 0), (.slice none 0 0), (.slice none 0 0)] 5 2 tZr25_LfD fun h2 => ?_ <;> refine xL 3 q_assign ?_ <;> refine aL_end (nav ?_) <;> try dsimp only)
 (refine aC_region ?_ <;> (refine yL 7 (q_ldao 1 tAgg25_LdS) fun v7 hv7 => ?_; cases hv7) <;> (refine cS 8 (cA Tryz.call24 (aValid_e a)) fun v8 hv8 => ?_; cases hv8) <;> refine xL 9 q_not ?_ <;> refine aL_end (nav ?_) <;> try dsimp only)
 (first | refine cCd ?_ ?_ | refine cC ?_ ?_) <;> intro hb9
 · rw [hv] at hb9; simp at hb9
 · refine nav ?_
   refine aC_mid (fun h4 : Value => ⟨[(1, padd (sbase h1) 0, .val (padd (sbase h1) 0)), (2, padd (sbase h2) 0, .val (padd (sbase h2) 0)), (4, padd (sbase h4) 0, .val (padd (sbase h4) 0))], [(1, h1, .own 25 5 1 [pInt a.n, pInt a.syms, pInts a.start, pInts a.fin, pMvs a.moves]), (2, h2, .own 25 5 1 [pInt 0, pInt 0, .val (.slice none 0 0), .val (.slice none 0 0), .val (.slice none 0 0)]), (4, h4, .own 25 5 1 [pInt a.n, pInt a.syms, pInts a.fin, pInts a.start, .val (.slice none 0 0)])]⟩) ?_ ?_
   · (refine aC_draw (fun i => ([] : List Nat).elem i) [1] (by kernel_rfl) ?_ <;> refine xD 0 11 rfl (q_fldo 1 tFl25_0_LdI) ?_ <;> (refine yD 1 12 rfl (q_ldo 1 tNa3_LbB) fun v12 hv12 => ?_; cases hv12) <;> refine xD 2 13 rfl (q_fldo 1 tFl25_1_LdI) ?_ <;> (refine yD 3 14 rfl (q_ldo 1 tNa3_LbB) fun v14 hv14 => ?_; cases hv14) <;> refine xD 4 15 rfl (q_fldo 1 tFl25_3_LdI) ?_ <;> (refine yD 5 16 rfl (q_ldo 1 tNa22_LdI) fun v16 hv16 => ?_; cases hv16) <;> refine xD 7 18 rfl (q_fldo 1 tFl25_2_LdI) ?_ <;> (refine yD 8 19 rfl (q_ldo 1 tNa22_LdI) fun v19 hv19 => ?_; cases hv19) <;> (refine aD_two 6 11 (by kernel_rfl) ?_ ?_; rotate_right; (focus ((refine aW_run rfl fun w9 M9 N9 DQ back => ?_) <;> refine s_alloc [(.int .i64 0), (.int .i64 0), (.slice none 0 0), (.slice none 0 0), (.slice none 0 0)] 5 4 tZr25_LfD fun h4 => ?_ <;> refine aL_end (back _ (nrm ?_)) <;> (refine aD_one 6 (by kernel_rfl) ?_) <;> (refine aW_run rfl fun w9 M9 N9 DQ back => ?_) <;> (refine cO 17 (cA Tryz.call51 (cloneIntW_e a.fin (by omega))) fun v17 ho17 => ?_; refine aL_ent (En.freeze (l := 17) (t := 17) rfl rfl) fun _ => ?_; rw [share_ints _ _ _ rfl]) <;> refine aL_end (back _ (nrm ?_)) <;> (refine aD_one 9 (by kernel_rfl) ?_) <;> (refine aW_run rfl fun w9 M9 N9 DQ back => ?_) <;> (refine cO 20 (cA Tryz.call51 (cloneIntW_e a.start (by omega))) fun v20 ho20 => ?_; refine aL_ent (En.freeze (l := 20) (t := 20) rfl rfl) fun _ => ?_; rw [share_ints _ _ _ rfl]) <;> refine aL_end (back _ (nrm ?_)) <;> refine xE 10 21 rfl (q_build tSt25_LfD) ?_ <;> (refine aD_one 12 (by kernel_rfl) ?_) <;> (refine aW_run rfl fun w9 M9 N9 DQ back => ?_) <;> refine s_sta 4 tAgg25_LdS ?_ <;> refine aL_end (back _ (nrm ?_)))); rotate_right; (focus ((refine aW_run rfl fun w9 M9 N9 DQ back => ?_) <;> (refine cO 17 (cA Tryz.call51 (cloneIntW_e a.fin (by omega))) fun v17 ho17 => ?_; refine aL_ent (En.freeze (l := 17) (t := 17) rfl rfl) fun _ => ?_; rw [share_ints _ _ _ rfl]) <;> refine aL_end (back _ (nrm ?_)) <;> (refine aD_two 9 11 (by kernel_rfl) ?_ ?_; rotate_right; (focus ((refine aW_run rfl fun w9 M9 N9 DQ back => ?_) <;> refine s_alloc [(.int .i64 0), (.int .i64 0), (.slice none 0 0), (.slice none 0 0), (.slice none 0 0)] 5 4 tZr25_LfD fun h4 => ?_ <;> refine aL_end (back _ (nrm ?_)) <;> (refine aD_one 9 (by kernel_rfl) ?_) <;> (refine aW_run rfl fun w9 M9 N9 DQ back => ?_) <;> (refine cO 20 (cA Tryz.call51 (cloneIntW_e a.start (by omega))) fun v20 ho20 => ?_; refine aL_ent (En.freeze (l := 20) (t := 20) rfl rfl) fun _ => ?_; rw [share_ints _ _ _ rfl]) <;> refine aL_end (back _ (nrm ?_)) <;> refine xE 10 21 rfl (q_build tSt25_LfD) ?_ <;> (refine aD_one 12 (by kernel_rfl) ?_) <;> (refine aW_run rfl fun w9 M9 N9 DQ back => ?_) <;> refine s_sta 4 tAgg25_LdS ?_ <;> refine aL_end (back _ (nrm ?_)))); rotate_right; (focus ((refine aW_run rfl fun w9 M9 N9 DQ back => ?_) <;> (refine cO 20 (cA Tryz.call51 (cloneIntW_e a.start (by omega))) fun v20 ho20 => ?_; refine aL_ent (En.freeze (l := 20) (t := 20) rfl rfl) fun _ => ?_; rw [share_ints _ _ _ rfl]) <;> refine aL_end (back _ (nrm ?_)) <;> refine xD 10 21 rfl (q_build tSt25_LfD) ?_ <;> (refine aD_one 11 (by kernel_rfl) ?_) <;> (refine aW_run rfl fun w9 M9 N9 DQ back => ?_) <;> refine s_alloc [(.int .i64 0), (.int .i64 0), (.slice none 0 0), (.slice none 0 0), (.slice none 0 0)] 5 4 tZr25_LfD fun h4 => ?_ <;> refine aL_end (back _ (nrm ?_)) <;> (refine aD_one 12 (by kernel_rfl) ?_) <;> (refine aW_run rfl fun w9 M9 N9 DQ back => ?_) <;> refine s_sta 4 tAgg25_LdS ?_ <;> refine aL_end (back _ (nrm ?_)))))))) <;> refine aD_end (by kernel_rfl) (nav ?_) <;> try dsimp only) <;> (
      exact aN_join _ ⟨rfl, rfl, rfl, trivial⟩ ⟨rfl, rfl, rfl, trivial⟩)
   · rintro h4
     refine aC_ent (nilCells (l := 4) [pInt a.n, pInt a.syms, pInts a.fin, pInts a.start, .own 72 3 0 []] rfl rfl (fun i p p' h1 h2 => by
      match i with
      | 0 => cases h1; cases h2; exact .inl rfl
      | 1 => cases h1; cases h2; exact .inl rfl
      | 2 => cases h1; cases h2; exact .inl rfl
      | 3 => cases h1; cases h2; exact .inl rfl
      | 4 => cases h1; cases h2; exact .inr ⟨rfl, _, _, rfl⟩
      | i + 5 => simp at h2)) fun _ => ?_
     refine aC_ent (focusO (l := 4) (l' := 301) (j := 4) rfl rfl rfl rfl) fun i => ?_
     obtain ⟨v301, ho301⟩ := i
     dsimp only [List.set]
     refine nav ?_
     (refine aC_region ?_ <;> refine xL 22 (q_fldo 1 tFl25_4_LdI) ?_ <;> (refine yL 23 (q_ldo 1 tNa23_LdI) fun v23 hv23 => ?_; cases hv23) <;> refine xL 24 (q_len tSl23_LdI) ?_ <;> refine xL 25 q_move ?_ <;> refine aL_end (nav ?_) <;> try dsimp only)
     refine aC_loop (ι := { q : Nat × Value // q.1 ≤ a.moves.length ∧ q.2.oneCell' = true }) (fun k => ⟨[(1, _, _), (2, _, _), (4, _, _), (23, _, _), (24, _, _), (25, .int .i64 k.1.1, pInt k.1.1)], [(1, _, _), (2, _, _), (4, h4, .own 25 5 1 [pInt a.n, pInt a.syms, pInts a.fin, pInts a.start, .val k.1.2]), (301, k.1.2, .own 72 3 (turnM (a.moves.take k.1.1)).length ((turnM (a.moves.take k.1.1)).flatMap cMv))]⟩) (fun k => a.moves.length - k.1.1) ⟨(0, v301), Nat.zero_le _, ho301⟩ (fun a w H => H.weaken ⟨rfl, rfl, rfl, rfl, rfl, rfl, trivial⟩ ⟨rfl, rfl, rfl, rfl, trivial⟩) ?_
     rintro ⟨⟨k, hM⟩, hk, hMo⟩
     dsimp only
     dsimp only at hk hMo
     have hl1 : (turnM (a.moves.take k)).length ≤ 30000 := by rw [turnM_len, List.length_take]; omega
     have q5 : En.one (PV.val hM) = true := hMo
     refine nav ?_
     (refine aC_region ?_ <;> refine xL 26 q_lss ?_ <;> refine aL_end (nav ?_) <;> try dsimp only)
     (first | refine cCd ?_ ?_ | refine cC ?_ ?_) <;> intro hb26
     · first
       | exact Bool.noConfusion hb26
       | (
        obtain ⟨x, hx⟩ := get_some (show k < a.moves.length by omega)
        have e1 := flat_drop cMv_len a.moves k x hx
        have e2 := flat_fit cMv_len hx
        refine nav ?_
        (refine aC_region ?_ <;> refine xL 27 (q_idxN tSl23_LdI) ?_ <;> (refine yL 28 (q_lda tAgg72_LdI) fun v28 hv28 => ?_; cases hv28) <;> refine s_alloc [(.int .i64 0), (.int .i64 0), (.int .i64 0)] 3 6 tZr72_LdI fun h6 => ?_ <;> refine s_sta 6 tAgg72_LdI ?_ <;> refine aL_end (nav ?_) <;> try dsimp only)
        (refine aC_region ?_ <;> refine xL 29 (q_fldo 4 tFl25_4_LdI) ?_ <;> (refine yL 30 (q_ldo 4 tNa23_LdI) fun v30 hv30 => ?_; cases hv30) <;> refine xL 31 (q_fldo 6 tFl72_1_LdI) ?_ <;> (refine yL 32 (q_ldo 6 tNa3_LbB) fun v32 hv32 => ?_; cases hv32) <;> refine xL 33 (q_fldo 6 tFl72_0_LdI) ?_ <;> (refine yL 34 (q_ldo 6 tNa3_LbB) fun v34 hv34 => ?_; cases hv34) <;> refine xL 35 (q_fldo 6 tFl72_2_LdI) ?_ <;> (refine yL 36 (q_ldo 6 tNa3_LbB) fun v36 hv36 => ?_; cases hv36) <;> refine xL 37 (q_build tSt72_LfD) ?_ <;> refine s_lit1a 38 tEl23_LdR fun h38 ho38 => ?_ <;> (refine s_app 301 38 39 tEl23_LdR fun h39 ho39 => ?_; refine aL_ent (relabel (l := 39) 301 rfl rfl) fun _ => ?_; refine aL_ent (recast (l := 301) rfl ((snoc_mv _ (turnM (a.moves.take k)) ⟨x.dst, x.src, x.sym⟩).trans (by rw [← turnM_snoc hx]))) fun _ => ?_) <;> refine xL 40 (q_fldo 4 tFl25_4_LdI) ?_ <;> refine s_st 4 tNa23_LdI tSz23_LdR ?_ <;> refine aL_end (nav ?_) <;> try dsimp only)
        (refine aC_region ?_ <;> refine xL 41 q_add ?_ <;> refine xL 25 q_move ?_ <;> refine aL_end (nav ?_) <;> try dsimp only)
        refine aN_again (
         ⟨(k + 1, h39), lt_of_get hx, ho39⟩
         ) (by dsimp only; omega) ⟨rfl, rfl, rfl, rfl, rfl, rfl, trivial⟩ ⟨rfl, rfl, rfl, rfl, trivial⟩)
     · first
       | exact Bool.noConfusion hb26
       | (
        rw [List.take_of_length_le (show a.moves.length ≤ k by omega)]
        refine nav ?_
        refine aC_ent (relabel (l := 301) 1000 rfl rfl) fun _ => ?_
        (refine aC_region ?_ <;> (refine yL 42 (q_ldao (k := 5) (ps := [pInt a.n, pInt a.syms, pInts a.fin, pInts a.start, PV.val hM]) 4 (by kernel_rfl)) fun v42 hv42 => ?_; cases hv42) <;> (refine aL_heap [(1000, hM, PV.own 72 3 (revA a).moves.length ((revA a).moves.flatMap cMv)), (1, _, _), (2, _, _), (4, _, _)] ⟨rfl, rfl, rfl, rfl, trivial⟩ ?_; refine aL_ch [1, 2, 4] 43 (Tryz.call88) (aMade_g (revA a) (by show (turnM a.moves).length ≤ 1000000; rw [turnM_len]; omega) (rev_nodup h) _ hM hMo r5 hr) ?_; rintro _ _ _ ⟨⟨V1, rfl⟩, rfl, rfl⟩) <;> refine xL 44 q_extract ?_ <;> refine xL 45 q_extract ?_ <;> refine s_sta 2 tAgg25_LdS ?_ <;> refine xL 3 q_assign ?_ <;> refine aL_end (nav ?_) <;> try dsimp only)
        exact ret_cs (k := 5) 2 (by kernel_rfl) (Tryz.results46) rfl rfl rfl (Nat.le_of_ble_eq_true rfl) (by decide) r5.s rfl)
theorem aReverse_e (a : Aut) : AF Tryz.prog 46 [pAut a] (· = resW (revX a)) := by
 unfold revX
 cases hv : autOk a with
 | false => rw [if_neg (by simp)]; exact aReverse_bad a hv
 | true =>
   rw [if_pos rfl]
   have h := vok_of hv
   obtain ⟨p0, p1, p2, p3, p4, E, h5, h2, hr⟩ := aReduced_5 (revA a) (by show (turnM a.moves).length ≤ 1000000; rw [turnM_len]; have := h.ml; omega) (rev_pre h)
   rw [h2]; exact aReverse_g a hv h5 hr
theorem aProductW_bad (a b : Aut) (op e : Int) (he : ¬ e = 0) (hf : AF Tryz.prog 70 [pAut a, pAut b] (· = pInt e)) : AF Tryz.prog 18 [pAut a, pAut b, pInt op] (· = .tup [rawZ, pInt e]) := by
 refine AF.of_body 41 Tryz.func18 rfl Tryz.ntmps18 (Nat.le_of_ble_eq_true rfl) ?_
 intro w0 M0 vs hl hv
 obtain ⟨v0, v1, v2, rfl⟩ := len3 hl
 obtain rfl := hv 2 _ _ rfl rfl
 clear hl hv
 refine nav ?_
 (refine aC_region ?_ <;> refine s_boxa 3 5 fun h3 => ?_ <;> refine s_boxa 4 5 fun h4 => ?_ <;> refine s_alloc [(.int .i64 0), (.int .i64 0), (.slice none 0 0), (.slice none 0 0), (.slice none 0 0)] 5 6 tZr25_LfD fun h6 => ?_ <;> refine xL 7 q_assign ?_ <;> refine aL_end (nav ?_) <;> try dsimp only)
 (refine aC_region ?_ <;> (refine yL 11 (q_ldao 3 tAgg25_LdS) fun v11 hv11 => ?_; cases hv11) <;> (refine yL 12 (q_ldao 4 tAgg25_LdS) fun v12 hv12 => ?_; cases hv12) <;> (refine cS 13 (cA Tryz.call70 (hf)) fun v13 hv13 => ?_; cases hv13) <;> refine xL 8 q_assign ?_ <;> refine aL_end (nav ?_) <;> try dsimp only)
 (refine aC_region ?_ <;> refine xL 14 q_move ?_ <;> refine xL 15 q_neq ?_ <;> refine aL_end (nav ?_) <;> try dsimp only)
 (first | refine cCd ?_ ?_ | refine cC ?_ ?_) <;> intro hb15
 · refine nav ?_
   (refine aC_region ?_ <;> refine xL 16 (q_build tSt25_LfD) ?_ <;> refine xL 17 q_move ?_ <;> refine s_sta 6 tAgg25_LdS ?_ <;> refine xL 7 q_assign ?_ <;> refine aL_end (nav ?_) <;> try dsimp only)
   exact ret_cs (k := 5) 6 (by kernel_rfl) (Tryz.results18) rfl rfl rfl (Nat.le_of_ble_eq_true rfl) (by decide) rfl rfl
 · exact absurd (by simpa using hb15) he
theorem aProductW_op (a b : Aut) (op : Int) (ho : op < 1 ∨ 4 < op) (hf : AF Tryz.prog 70 [pAut a, pAut b] (· = pInt 0)) : AF Tryz.prog 18 [pAut a, pAut b, pInt op] (· = .tup [rawZ, pInt 2]) := by
 refine AF.of_body 41 Tryz.func18 rfl Tryz.ntmps18 (Nat.le_of_ble_eq_true rfl) ?_
 intro w0 M0 vs hl hv
 obtain ⟨v0, v1, v2, rfl⟩ := len3 hl
 obtain rfl := hv 2 _ _ rfl rfl
 clear hl hv
 refine nav ?_
 (refine aC_region ?_ <;> refine s_boxa 3 5 fun h3 => ?_ <;> refine s_boxa 4 5 fun h4 => ?_ <;> refine s_alloc [(.int .i64 0), (.int .i64 0), (.slice none 0 0), (.slice none 0 0), (.slice none 0 0)] 5 6 tZr25_LfD fun h6 => ?_ <;> refine xL 7 q_assign ?_ <;> refine aL_end (nav ?_) <;> try dsimp only)
 (refine aC_region ?_ <;> (refine yL 11 (q_ldao 3 tAgg25_LdS) fun v11 hv11 => ?_; cases hv11) <;> (refine yL 12 (q_ldao 4 tAgg25_LdS) fun v12 hv12 => ?_; cases hv12) <;> (refine cS 13 (cA Tryz.call70 (hf)) fun v13 hv13 => ?_; cases hv13) <;> refine xL 8 q_assign ?_ <;> refine aL_end (nav ?_) <;> try dsimp only)
 (refine aC_region ?_ <;> refine xL 14 q_move ?_ <;> refine xL 15 q_neq ?_ <;> refine aL_end (nav ?_) <;> try dsimp only)
 (first | refine cCd ?_ ?_ | refine cC ?_ ?_) <;> intro hb15
 · first | omega | exact absurd rfl hb15 | exact Bool.noConfusion hb15
 · refine nav ?_
   (refine aC_region ?_ <;> refine xL 18 q_move ?_ <;> refine xL 19 q_lss ?_ <;> refine xL 20 q_move ?_ <;> (refine bLd 20 (fun hb20 => ?_) (fun hb20 => ?_) <;> (first | refine kL 21 ?_ | refine xL 21 q_move ?_)) <;> (first | refine kL 22 ?_ | refine xL 22 q_gtr ?_) <;> refine xL 23 q_pick ?_ <;> refine aL_end (nav ?_) <;> try dsimp only) <;> (
    (first | refine cCd ?_ ?_ | refine cC ?_ ?_) <;> intro hb23
    · refine nav ?_
      (refine aC_region ?_ <;> refine xL 24 (q_build tSt25_LfD) ?_ <;> refine s_sta 6 tAgg25_LdS ?_ <;> refine xL 7 q_assign ?_ <;> refine aL_end (nav ?_) <;> try dsimp only)
      exact ret_cs (k := 5) 6 (by kernel_rfl) (Tryz.results18) rfl rfl rfl (Nat.le_of_ble_eq_true rfl) (by decide) rfl rfl
    · exfalso; first | omega | (simp_all; done) | (simp_all; omega))
theorem aProductW_err (a b : Aut) (op e : Int) (ho : ¬ (op < 1 ∨ 4 < op)) (he : ¬ e = 0) (hf : AF Tryz.prog 70 [pAut a, pAut b] (· = pInt 0)) (hb : AF Tryz.prog 71 [pAut a, pAut b, pInt op] (· = .tup [pPZ, pInt e])) : AF Tryz.prog 18 [pAut a, pAut b, pInt op] (· = .tup [rawZ, pInt e]) := by
 refine AF.of_body 41 Tryz.func18 rfl Tryz.ntmps18 (Nat.le_of_ble_eq_true rfl) ?_
 intro w0 M0 vs hl hv
 obtain ⟨v0, v1, v2, rfl⟩ := len3 hl
 obtain rfl := hv 2 _ _ rfl rfl
 clear hl hv
 refine nav ?_
 (refine aC_region ?_ <;> refine s_boxa 3 5 fun h3 => ?_ <;> refine s_boxa 4 5 fun h4 => ?_ <;> refine s_alloc [(.int .i64 0), (.int .i64 0), (.slice none 0 0), (.slice none 0 0), (.slice none 0 0)] 5 6 tZr25_LfD fun h6 => ?_ <;> refine xL 7 q_assign ?_ <;> refine aL_end (nav ?_) <;> try dsimp only)
 (refine aC_region ?_ <;> (refine yL 11 (q_ldao 3 tAgg25_LdS) fun v11 hv11 => ?_; cases hv11) <;> (refine yL 12 (q_ldao 4 tAgg25_LdS) fun v12 hv12 => ?_; cases hv12) <;> (refine cS 13 (cA Tryz.call70 (hf)) fun v13 hv13 => ?_; cases hv13) <;> refine xL 8 q_assign ?_ <;> refine aL_end (nav ?_) <;> try dsimp only)
 (refine aC_region ?_ <;> refine xL 14 q_move ?_ <;> refine xL 15 q_neq ?_ <;> refine aL_end (nav ?_) <;> try dsimp only)
 (first | refine cCd ?_ ?_ | refine cC ?_ ?_) <;> intro hb15
 · first | omega | exact absurd rfl hb15 | exact Bool.noConfusion hb15
 · refine nav ?_
   (refine aC_region ?_ <;> refine xL 18 q_move ?_ <;> refine xL 19 q_lss ?_ <;> refine xL 20 q_move ?_ <;> (refine bLd 20 (fun hb20 => ?_) (fun hb20 => ?_) <;> (first | refine kL 21 ?_ | refine xL 21 q_move ?_)) <;> (first | refine kL 22 ?_ | refine xL 22 q_gtr ?_) <;> refine xL 23 q_pick ?_ <;> refine aL_end (nav ?_) <;> try dsimp only) <;> (
    (first | refine cCd ?_ ?_ | refine cC ?_ ?_) <;> intro hb23
    · exfalso; first | omega | (simp_all; done) | (simp_all; omega)
    · refine nav ?_
      (refine aC_region ?_ <;> (refine yL 26 (q_ldao 3 tAgg25_LdS) fun v26 hv26 => ?_; cases hv26) <;> (refine yL 27 (q_ldao 4 tAgg25_LdS) fun v27 hv27 => ?_; cases hv27) <;> refine xL 28 q_move ?_ <;> (refine cP 29 (cA Tryz.call71 (hb)) fun va29 vb29 hva29 hvb29 => ?_; cases hvb29) <;> refine xL 25 q_move ?_ <;> refine xL 30 q_extract ?_ <;> refine xL 31 q_extract ?_ <;> refine s_alloc [(.int .i64 0), (.slice none 0 0), (.slice none 0 0), (.slice none 0 0), (.slice none 0 0)] 5 9 tZr95_LfP fun h9 => ?_ <;> refine s_sta 9 tAgg95_LfP ?_ <;> refine xL 10 q_assign ?_ <;> refine aL_end (nav ?_) <;> try dsimp only)
      (refine aC_region ?_ <;> refine xL 32 q_move ?_ <;> refine xL 33 q_neq ?_ <;> refine aL_end (nav ?_) <;> try dsimp only)
      (first | refine cCd ?_ ?_ | refine cC ?_ ?_) <;> intro hb33
      · refine nav ?_
        (refine aC_region ?_ <;> refine xL 34 (q_build tSt25_LfD) ?_ <;> refine xL 35 q_move ?_ <;> refine s_sta 6 tAgg25_LdS ?_ <;> refine xL 7 q_assign ?_ <;> refine aL_end (nav ?_) <;> try dsimp only)
        exact ret_cs (k := 5) 6 (by kernel_rfl) (Tryz.results18) rfl rfl rfl (Nat.le_of_ble_eq_true rfl) (by decide) rfl rfl
      · exact absurd (by simpa using hb33) he)
theorem aProductW_ok (a b A B : Aut) (op : Int) (q : List PrS × List (List Nat)) {A' : Aut} (ho : ¬ (op < 1 ∨ 4 < op)) (hf : AF Tryz.prog 70 [pAut a, pAut b] (· = pInt 0)) (hb : AF Tryz.prog 71 [pAut a, pAut b, pInt op] (· = .tup [pPairs A B op q, pInt 0])) (hm : AF Tryz.prog 72 [pTab (prodT A B op q)] (· = .tup [pAut A', pInt 0])) : AF Tryz.prog 18 [pAut a, pAut b, pInt op] (· = .tup [pAut A', pInt 0]) := by
 refine AF.of_body 41 Tryz.func18 rfl Tryz.ntmps18 (Nat.le_of_ble_eq_true rfl) ?_
 intro w0 M0 vs hl hv
 obtain ⟨v0, v1, v2, rfl⟩ := len3 hl
 obtain rfl := hv 2 _ _ rfl rfl
 clear hl hv
 refine nav ?_
 (refine aC_region ?_ <;> refine s_boxa 3 5 fun h3 => ?_ <;> refine s_boxa 4 5 fun h4 => ?_ <;> refine s_alloc [(.int .i64 0), (.int .i64 0), (.slice none 0 0), (.slice none 0 0), (.slice none 0 0)] 5 6 tZr25_LfD fun h6 => ?_ <;> refine xL 7 q_assign ?_ <;> refine aL_end (nav ?_) <;> try dsimp only)
 (refine aC_region ?_ <;> (refine yL 11 (q_ldao 3 tAgg25_LdS) fun v11 hv11 => ?_; cases hv11) <;> (refine yL 12 (q_ldao 4 tAgg25_LdS) fun v12 hv12 => ?_; cases hv12) <;> (refine cS 13 (cA Tryz.call70 (hf)) fun v13 hv13 => ?_; cases hv13) <;> refine xL 8 q_assign ?_ <;> refine aL_end (nav ?_) <;> try dsimp only)
 (refine aC_region ?_ <;> refine xL 14 q_move ?_ <;> refine xL 15 q_neq ?_ <;> refine aL_end (nav ?_) <;> try dsimp only)
 (first | refine cCd ?_ ?_ | refine cC ?_ ?_) <;> intro hb15
 · first | omega | exact absurd rfl hb15 | exact Bool.noConfusion hb15
 · refine nav ?_
   (refine aC_region ?_ <;> refine xL 18 q_move ?_ <;> refine xL 19 q_lss ?_ <;> refine xL 20 q_move ?_ <;> (refine bLd 20 (fun hb20 => ?_) (fun hb20 => ?_) <;> (first | refine kL 21 ?_ | refine xL 21 q_move ?_)) <;> (first | refine kL 22 ?_ | refine xL 22 q_gtr ?_) <;> refine xL 23 q_pick ?_ <;> refine aL_end (nav ?_) <;> try dsimp only) <;> (
    (first | refine cCd ?_ ?_ | refine cC ?_ ?_) <;> intro hb23
    · exfalso; first | omega | (simp_all; done) | (simp_all; omega)
    · refine nav ?_
      (refine aC_region ?_ <;> (refine yL 26 (q_ldao 3 tAgg25_LdS) fun v26 hv26 => ?_; cases hv26) <;> (refine yL 27 (q_ldao 4 tAgg25_LdS) fun v27 hv27 => ?_; cases hv27) <;> refine xL 28 q_move ?_ <;> (refine cP 29 (cA Tryz.call71 (hb)) fun va29 vb29 hva29 hvb29 => ?_; cases hvb29) <;> refine xL 25 q_move ?_ <;> refine xL 30 q_extract ?_ <;> refine xL 31 q_extract ?_ <;> refine s_alloc [(.int .i64 0), (.slice none 0 0), (.slice none 0 0), (.slice none 0 0), (.slice none 0 0)] 5 9 tZr95_LfP fun h9 => ?_ <;> refine s_sta 9 tAgg95_LfP ?_ <;> refine xL 10 q_assign ?_ <;> refine aL_end (nav ?_) <;> try dsimp only)
      (refine aC_region ?_ <;> refine xL 32 q_move ?_ <;> refine xL 33 q_neq ?_ <;> refine aL_end (nav ?_) <;> try dsimp only)
      (first | refine cCd ?_ ?_ | refine cC ?_ ?_) <;> intro hb33
      · first | omega | exact absurd rfl hb33 | exact Bool.noConfusion hb33
      · refine nav ?_
        (refine aC_region ?_ <;> refine xL 36 (q_fldo 9 tFl95_0_LfP) ?_ <;> (refine yL 37 (q_ldao 9 tAgg93_LfB) fun v37 hv37 => ?_; cases hv37) <;> (refine cP 38 (cA Tryz.call72 (hm)) fun va38 vb38 hva38 hvb38 => ?_; cases hvb38) <;> refine xL 39 q_extract ?_ <;> refine xL 40 q_extract ?_ <;> refine s_sta 6 tAgg25_LdS ?_ <;> refine xL 7 q_assign ?_ <;> refine aL_end (nav ?_) <;> try dsimp only)
        exact ret_cs (k := 5) 6 (by kernel_rfl) (Tryz.results18) rfl rfl rfl (Nat.le_of_ble_eq_true rfl) (by decide) rfl rfl)
theorem aProductW_er (a b A B : Aut) (op : Int) (q : List PrS × List (List Nat)) {e : Int} (ho : ¬ (op < 1 ∨ 4 < op)) (hf : AF Tryz.prog 70 [pAut a, pAut b] (· = pInt 0)) (hb : AF Tryz.prog 71 [pAut a, pAut b, pInt op] (· = .tup [pPairs A B op q, pInt 0])) (hm : AF Tryz.prog 72 [pTab (prodT A B op q)] (· = .tup [rawZ, pInt e])) : AF Tryz.prog 18 [pAut a, pAut b, pInt op] (· = .tup [rawZ, pInt e]) := by
 refine AF.of_body 41 Tryz.func18 rfl Tryz.ntmps18 (Nat.le_of_ble_eq_true rfl) ?_
 intro w0 M0 vs hl hv
 obtain ⟨v0, v1, v2, rfl⟩ := len3 hl
 obtain rfl := hv 2 _ _ rfl rfl
 clear hl hv
 refine nav ?_
 (refine aC_region ?_ <;> refine s_boxa 3 5 fun h3 => ?_ <;> refine s_boxa 4 5 fun h4 => ?_ <;> refine s_alloc [(.int .i64 0), (.int .i64 0), (.slice none 0 0), (.slice none 0 0), (.slice none 0 0)] 5 6 tZr25_LfD fun h6 => ?_ <;> refine xL 7 q_assign ?_ <;> refine aL_end (nav ?_) <;> try dsimp only)
 (refine aC_region ?_ <;> (refine yL 11 (q_ldao 3 tAgg25_LdS) fun v11 hv11 => ?_; cases hv11) <;> (refine yL 12 (q_ldao 4 tAgg25_LdS) fun v12 hv12 => ?_; cases hv12) <;> (refine cS 13 (cA Tryz.call70 (hf)) fun v13 hv13 => ?_; cases hv13) <;> refine xL 8 q_assign ?_ <;> refine aL_end (nav ?_) <;> try dsimp only)
 (refine aC_region ?_ <;> refine xL 14 q_move ?_ <;> refine xL 15 q_neq ?_ <;> refine aL_end (nav ?_) <;> try dsimp only)
 (first | refine cCd ?_ ?_ | refine cC ?_ ?_) <;> intro hb15
 · first | omega | exact absurd rfl hb15 | exact Bool.noConfusion hb15
 · refine nav ?_
   (refine aC_region ?_ <;> refine xL 18 q_move ?_ <;> refine xL 19 q_lss ?_ <;> refine xL 20 q_move ?_ <;> (refine bLd 20 (fun hb20 => ?_) (fun hb20 => ?_) <;> (first | refine kL 21 ?_ | refine xL 21 q_move ?_)) <;> (first | refine kL 22 ?_ | refine xL 22 q_gtr ?_) <;> refine xL 23 q_pick ?_ <;> refine aL_end (nav ?_) <;> try dsimp only) <;> (
    (first | refine cCd ?_ ?_ | refine cC ?_ ?_) <;> intro hb23
    · exfalso; first | omega | (simp_all; done) | (simp_all; omega)
    · refine nav ?_
      (refine aC_region ?_ <;> (refine yL 26 (q_ldao 3 tAgg25_LdS) fun v26 hv26 => ?_; cases hv26) <;> (refine yL 27 (q_ldao 4 tAgg25_LdS) fun v27 hv27 => ?_; cases hv27) <;> refine xL 28 q_move ?_ <;> (refine cP 29 (cA Tryz.call71 (hb)) fun va29 vb29 hva29 hvb29 => ?_; cases hvb29) <;> refine xL 25 q_move ?_ <;> refine xL 30 q_extract ?_ <;> refine xL 31 q_extract ?_ <;> refine s_alloc [(.int .i64 0), (.slice none 0 0), (.slice none 0 0), (.slice none 0 0), (.slice none 0 0)] 5 9 tZr95_LfP fun h9 => ?_ <;> refine s_sta 9 tAgg95_LfP ?_ <;> refine xL 10 q_assign ?_ <;> refine aL_end (nav ?_) <;> try dsimp only)
      (refine aC_region ?_ <;> refine xL 32 q_move ?_ <;> refine xL 33 q_neq ?_ <;> refine aL_end (nav ?_) <;> try dsimp only)
      (first | refine cCd ?_ ?_ | refine cC ?_ ?_) <;> intro hb33
      · first | omega | exact absurd rfl hb33 | exact Bool.noConfusion hb33
      · refine nav ?_
        (refine aC_region ?_ <;> refine xL 36 (q_fldo 9 tFl95_0_LfP) ?_ <;> (refine yL 37 (q_ldao 9 tAgg93_LfB) fun v37 hv37 => ?_; cases hv37) <;> (refine cP 38 (cA Tryz.call72 (hm)) fun va38 vb38 hva38 hvb38 => ?_; cases hvb38) <;> refine xL 39 q_extract ?_ <;> refine xL 40 q_extract ?_ <;> refine s_sta 6 tAgg25_LdS ?_ <;> refine xL 7 q_assign ?_ <;> refine aL_end (nav ?_) <;> try dsimp only)
        exact ret_cs (k := 5) 6 (by kernel_rfl) (Tryz.results18) rfl rfl rfl (Nat.le_of_ble_eq_true rfl) (by decide) rfl rfl)
theorem bothX_ok {a b A B : Aut} {q : List PrS × List (List Nat)} (h : bothX a b = .ok (A, B, q)) : redX a = .ok A ∧ redX b = .ok B ∧ prodQ A B = some q := by
 unfold bothX at h
 split at h
 · rename_i A' B' ea eb
   split at h
   · rename_i q' eq
     cases h
     exact ⟨ea, eb, eq⟩
   · cases h
 · cases h
theorem bothX_err {a b : Aut} {e : Int} (h : bothX a b = .error e) : e = 13 := by
 unfold bothX at h
 split at h
 · split at h <;> cases h
   rfl
 · cases h; rfl
theorem both_tok {a b A B : Aut} {q : List PrS × List (List Nat)} (op : Int) (hf : fitX a b = 0) (h : bothX a b = .ok (A, B, q)) : TOk (prodT A B op q) := by
 obtain ⟨h1, h2, h3⟩ := fit_zero hf
 obtain ⟨ea, eb, eq⟩ := bothX_ok h
 obtain ⟨dA, sA⟩ := redX_det (aok_of h1) ea
 obtain ⟨dB, sB⟩ := redX_det (aok_of h2) eb
 exact prod_tok dA dB (by rw [sA, sB, h3]) op eq
theorem aProductW_e (a b : Aut) (op : Int) : AF Tryz.prog 18 [pAut a, pAut b, pInt op] (· = resW (prodX a b op)) := by
 have hf := aFit_e a b
 unfold prodX
 by_cases h0 : fitX a b = 0
 · rw [if_neg (fun h => h h0)]
   rw [h0] at hf
   by_cases ho : op < 1 ∨ 4 < op
   · rw [if_pos ho]; exact aProductW_op a b op ho hf
   · rw [if_neg ho]
     have hb := aBoth_e a b op h0
     unfold resB at hb
     cases e : bothX a b with
     | error f =>
       rw [e] at hb
       obtain rfl := bothX_err e
       exact aProductW_err a b op 13 ho (by decide) hf hb
     | ok x =>
       obtain ⟨A, B, q⟩ := x
       rw [e] at hb
       have ht := both_tok op h0 e
       have hm := aMinimal_e _ ht
       dsimp only
       rcases res_cases (lim (leastT (prodT A B op q))) with ⟨A', _, h2⟩ | ⟨e', _, h2⟩
       · rw [h2] at hm ⊢
         exact aProductW_ok a b A B op q ho hf hb hm
       · rw [h2] at hm ⊢
         exact aProductW_er a b A B op q ho hf hb hm
 · rw [if_pos h0]
   exact aProductW_bad a b op _ h0 hf
theorem tEl75_LiD : ElT Tryz.prog 75 25 5 88 (.agg #[(.int .i64 0), (.int .i64 0), (.slice none 0 0), (.slice none 0 0), (.slice none 0 0)]) := ⟨Tryz.underlying75, by kernel_rfl, rfl, by decide⟩
theorem tZr4_LiD : ZeroT Tryz.prog 4 (.bool false) := by unfold ZeroT; kernel_rfl
theorem madeL_ml (a : Aut) : (autR (madeX a)).moves.length ≤ 20000 := by
 unfold madeX redL
 split
 · show (0 : Nat) ≤ 20000; omega
 · exact red_ml _
theorem ifL_ml {c : Prop} [Decidable c] {x y : Except Int Aut} (hx : (autR x).moves.length ≤ 20000) (hy : (autR y).moves.length ≤ 20000) : (autR (if c then x else y)).moves.length ≤ 20000 := by split <;> assumption
theorem errL_ml (e : Int) : (autR (.error e)).moves.length ≤ 20000 := by show (0 : Nat) ≤ 20000; omega
theorem unionL_ml (a b : Aut) : (autR (unionX a b)).moves.length ≤ 20000 := ifL_ml (errL_ml _) (madeL_ml _)
theorem starL_ml (a : Aut) : (autR (starX a)).moves.length ≤ 20000 := ifL_ml (madeL_ml _) (errL_ml _)
theorem revL_ml (a : Aut) : (autR (revX a)).moves.length ≤ 20000 := ifL_ml (madeL_ml _) (errL_ml _)
theorem shufL_ml (a b : Aut) : (autR (shufX a b)).moves.length ≤ 20000 := ifL_ml (errL_ml _) (ifL_ml (errL_ml _) (madeL_ml _))
set_option maxHeartbeats 8000000 in
theorem autLaws_c (a b m u nt ca cb bo st tw ra bk cc x rb y ei s t : Aut) (e1 e2 e3 e4 e5 e6 e7 e8 e9 e10 e11 e12 e13 e14 e15 e16 e17 : Int)
 (l1 : nt.moves.length ≤ 20000) (l2 : st.moves.length ≤ 20000) (l3 : m.moves.length ≤ 20000) (l4 : x.moves.length ≤ 20000) (l5 : u.moves.length ≤ 20000) (l6 : t.moves.length ≤ 20000)
 (c1 : AF Tryz.prog 26 [pAut a] (· = .tup [pAut m, pInt e1]))
 (c2 : AF Tryz.prog 40 [pAut a, pAut b] (· = .tup [pAut u, pInt e2]))
 (c3 : AF Tryz.prog 28 [pAut u] (· = .tup [pAut nt, pInt e3]))
 (c4 : AF Tryz.prog 28 [pAut a] (· = .tup [pAut ca, pInt e4]))
 (c5 : AF Tryz.prog 28 [pAut b] (· = .tup [pAut cb, pInt e5]))
 (c6 : AF Tryz.prog 18 [pAut ca, pAut cb, pInt 1] (· = .tup [pAut bo, pInt e6]))
 (c7 : AF Tryz.prog 44 [pAut a] (· = .tup [pAut st, pInt e7]))
 (c8 : AF Tryz.prog 44 [pAut st] (· = .tup [pAut tw, pInt e8]))
 (c9 : AF Tryz.prog 46 [pAut a] (· = .tup [pAut ra, pInt e9]))
 (c10 : AF Tryz.prog 46 [pAut ra] (· = .tup [pAut bk, pInt e10]))
 (c11 : AF Tryz.prog 42 [pAut a, pAut b] (· = .tup [pAut cc, pInt e11]))
 (c12 : AF Tryz.prog 46 [pAut cc] (· = .tup [pAut x, pInt e12]))
 (c13 : AF Tryz.prog 46 [pAut b] (· = .tup [pAut rb, pInt e13]))
 (c14 : AF Tryz.prog 42 [pAut rb, pAut ra] (· = .tup [pAut y, pInt e14]))
 (c15 : AF Tryz.prog 18 [pAut a, pAut b, pInt 2] (· = .tup [pAut ei, pInt e15]))
 (c16 : AF Tryz.prog 37 [pAut a, pAut b] (· = .tup [pAut s, pInt e16]))
 (c17 : AF Tryz.prog 37 [pAut b, pAut a] (· = .tup [pAut t, pInt e17]))
 (hfin : autOk a = true → autOk b = true → a.syms = b.syms → (∀ z ∈ [e1, e2, e3, e4, e5, e6, e7, e8, e9, e10, e11, e12, e13, e9, e14, e15, e16, e17], z ≠ 13) → nt = bo ∧ st = tw ∧ bk = m ∧ x = y ∧ ei = u ∧ s = t) : AF Tryz.prog 11 [pAut a, pAut b] (· = pBool true) := by
 refine AF.of_body 208 Tryz.func11 rfl Tryz.ntmps11 (Nat.le_of_ble_eq_true rfl) ?_
 intro w0 M0 vs hl hv
 obtain ⟨v0, v1, rfl⟩ := len2 hl
 clear hl hv
 refine nav ?_
 (refine aC_region ?_ <;> refine s_boxa 2 5 fun h2 => ?_ <;> refine s_boxa 3 5 fun h3 => ?_ <;> refine xL 4 q_assign ?_ <;> refine aL_end (nav ?_) <;> try dsimp only)
 (refine aC_region ?_ <;> (refine cS 19 (cA Tryz.call13 (awake07_e)) fun v19 hv19 => ?_; cases hv19) <;> refine xL 20 q_not ?_ <;> refine aL_end (nav ?_) <;> try dsimp only)
 (first | refine cCd ?_ ?_ | refine cC ?_ ?_) <;> intro hb20
 · first
   | exact Bool.noConfusion hb20
   | (
    refine nav ?_
    (refine aC_region ?_ <;> refine xL 4 q_assign ?_ <;> refine aL_end (nav ?_) <;> try dsimp only)
    exfalso; simp at hb20)
 · first
   | exact Bool.noConfusion hb20
   | (
    refine nav ?_
    (refine aC_region ?_ <;> (refine yL 21 (q_ldao 2 tAgg25_LdS) fun v21 hv21 => ?_; cases hv21) <;> (refine yL 22 (q_ldao 3 tAgg25_LdS) fun v22 hv22 => ?_; cases hv22) <;> (refine s_lita (kk := 5) (xs := [_, _]) (cs := [[_, _, _, _, _], [_, _, _, _, _]]) 23 tEl75_LiD fun h23 ho23 => ?_; refine aL_ent (En.freeze (l := 23) (t := 23) rfl rfl) fun _ => ?_; refine aL_ent (reslot (t := 23) (p' := .sl [a, b].length ([a, b].flatMap cAut)) rfl rfl) fun _ => ?_) <;> (refine cS 24 (cA Tryz.call14 (great07_e [a, b])) fun v24 hv24 => ?_; cases hv24) <;> refine xL 25 q_move ?_ <;> (refine bL 25 (fun hb25 => ?_) (fun hb25 => ?_) <;> (first | refine kL 26 ?_ | refine xL 26 (q_fldo 2 tFl25_0_LdI) ?_)) <;> (first | refine kL 27 ?_ | (refine yL 27 (q_ldo 2 tNa3_LbB) fun v27 hv27 => ?_; cases hv27)) <;> (first | refine kL 28 ?_ | refine xL 28 q_gtr ?_) <;> refine xL 29 q_pick ?_ <;> refine xL 30 q_move ?_ <;> (first | refine kL 31 ?_ | (refine bLd 30 (fun hb30 => ?_) (fun hb30 => ?_) <;> (first | refine kL 31 ?_ | refine xL 31 (q_fldo 3 tFl25_0_LdI) ?_))) <;> (first | refine kL 32 ?_ | (refine yL 32 (q_ldo 3 tNa3_LbB) fun v32 hv32 => ?_; cases hv32)) <;> (first | refine kL 33 ?_ | refine xL 33 q_gtr ?_) <;> refine xL 34 q_pick ?_ <;> refine xL 35 q_move ?_ <;> (first | refine kL 36 ?_ | (refine bLd 35 (fun hb35 => ?_) (fun hb35 => ?_) <;> (first | refine kL 36 ?_ | refine xL 36 (q_fldo 2 tFl25_1_LdI) ?_))) <;> (first | refine kL 37 ?_ | (refine yL 37 (q_ldo 2 tNa3_LbB) fun v37 hv37 => ?_; cases hv37)) <;> (first | refine kL 38 ?_ | refine xL 38 q_gtr ?_) <;> refine xL 39 q_pick ?_ <;> refine xL 40 q_move ?_ <;> (first | refine kL 41 ?_ | (refine bLd 40 (fun hb40 => ?_) (fun hb40 => ?_) <;> (first | refine kL 41 ?_ | refine xL 41 (q_fldo 2 tFl25_1_LdI) ?_))) <;> (first | refine kL 42 ?_ | (refine yL 42 (q_ldo 2 tNa3_LbB) fun v42 hv42 => ?_; cases hv42)) <;> (first | refine kL 43 ?_ | refine xL 43 (q_fldo 3 tFl25_1_LdI) ?_) <;> (first | refine kL 44 ?_ | (refine yL 44 (q_ldo 3 tNa3_LbB) fun v44 hv44 => ?_; cases hv44)) <;> (first | refine kL 45 ?_ | refine xL 45 q_neq ?_) <;> refine xL 46 q_pick ?_ <;> refine xL 47 q_move ?_ <;> (first | refine kL 48 ?_ | (refine bLd 47 (fun hb47 => ?_) (fun hb47 => ?_) <;> (first | refine kL 48 ?_ | refine xL 48 (q_fldo 2 tFl25_4_LdI) ?_))) <;> (first | refine kL 49 ?_ | (refine yL 49 (q_ldo 2 tNa23_LdI) fun v49 hv49 => ?_; cases hv49)) <;> (first | refine kL 50 ?_ | refine xL 50 (q_len tSl23_LdI) ?_) <;> (first | refine kL 51 ?_ | refine xL 51 q_gtr ?_) <;> refine xL 52 q_pick ?_ <;> refine xL 53 q_move ?_ <;> (first | refine kL 54 ?_ | (refine bLd 53 (fun hb53 => ?_) (fun hb53 => ?_) <;> (first | refine kL 54 ?_ | refine xL 54 (q_fldo 3 tFl25_4_LdI) ?_))) <;> (first | refine kL 55 ?_ | (refine yL 55 (q_ldo 3 tNa23_LdI) fun v55 hv55 => ?_; cases hv55)) <;> (first | refine kL 56 ?_ | refine xL 56 (q_len tSl23_LdI) ?_) <;> (first | refine kL 57 ?_ | refine xL 57 q_gtr ?_) <;> refine xL 58 q_pick ?_ <;> refine xL 59 q_move ?_ <;> (first | refine kL 60 ?_ | (refine bLd 59 (fun hb59 => ?_) (fun hb59 => ?_) <;> (first | refine kL 60 ?_ | (refine yL 60 (q_ldao 2 tAgg25_LdS) fun v60 hv60 => ?_; cases hv60)))) <;> (first | refine kL 61 ?_ | (refine cS 61 (cA Tryz.call25 (r07Valid_e a (by omega))) fun v61 hv61 => ?_; cases hv61)) <;> (first | refine kL 62 ?_ | refine xL 62 q_not ?_) <;> refine xL 63 q_pick ?_ <;> refine xL 64 q_move ?_ <;> (first | refine kL 65 ?_ | (refine bL 64 (fun hb64 => ?_) (fun hb64 => ?_) <;> (first | refine kL 65 ?_ | (refine yL 65 (q_ldao 3 tAgg25_LdS) fun v65 hv65 => ?_; cases hv65)))) <;> (first | refine kL 66 ?_ | (refine cS 66 (cA Tryz.call25 (r07Valid_e b (by omega))) fun v66 hv66 => ?_; cases hv66)) <;> (first | refine kL 67 ?_ | refine xL 67 q_not ?_) <;> refine xL 68 q_pick ?_ <;> refine aL_end (nav ?_) <;> try dsimp only) <;> (
     (first | refine cCd ?_ ?_ | refine cC ?_ ?_) <;> intro hb68
     · first
       | exact Bool.noConfusion hb68
       | (
        refine nav ?_
        (refine aC_region ?_ <;> refine xL 4 q_assign ?_ <;> refine aL_end (nav ?_) <;> try dsimp only)
        exact ret_shr (Tryz.results11) rfl rfl)
     · first
       | exact Bool.noConfusion hb68
       | (
        refine nav ?_
        (refine aC_region ?_ <;> refine s_alloc [(.bool false)] 1 5 tZr4_LiD fun h5 => ?_ <;> refine s_st 5 tNa4_LdJ tSz4_LdR ?_ <;> refine aL_end (nav ?_) <;> try dsimp only)
        have hva : autOk a = true := by simpa using hb64
        have hvb : autOk b = true := by simpa using hb68
        have hsy : a.syms = b.syms := by omega
        have hfin := hfin hva hvb hsy
        refine aC_ent (relabel (l := 5) 1000 rfl rfl) fun _ => ?_
        refine aC_ent (recast (l := 1000) (p' := .own 4 1 1 [pBool (limB [])]) rfl rfl) fun _ => ?_
        (refine aC_region ?_ <;> refine xL 69 q_mkfn ?_ <;> refine xL 6 q_assign ?_ <;> refine aL_end (nav ?_) <;> try dsimp only)
        refine aC_mid (fun h7 : Value => ⟨[(2, padd (sbase h2) 0, .val (padd (sbase h2) 0)), (3, padd (sbase h3) 0, .val (padd (sbase h3) 0)), (7, padd (sbase h7) 0, .val (padd (sbase h7) 0)), (5, padd (sbase h5) 0, .val (padd (sbase h5) 0)), (6, .func (.func 48) #[] #[padd (sbase h5) 0], .fn 48 [.val (padd (sbase h5) 0)])], [(1000, h5, .own 4 1 1 [pBool (limB [e1])]), (2, h2, .own 25 5 1 [pInt a.n, pInt a.syms, pInts a.start, pInts a.fin, pMvs a.moves]), (3, h3, .own 25 5 1 [pInt b.n, pInt b.syms, pInts b.start, pInts b.fin, pMvs b.moves]), (7, h7, .own 25 5 1 [pInt m.n, pInt m.syms, pInts m.start, pInts m.fin, pMvs m.moves])]⟩) ?_ ?_
        · (refine aC_region ?_ <;> refine xL 70 q_move ?_ <;> (refine yL 71 (q_ldao 2 tAgg25_LdS) fun v71 hv71 => ?_; cases hv71) <;> (refine cP 72 (cA Tryz.call26 (c1)) fun va72 vb72 hva72 hvb72 => ?_; cases hvb72) <;> refine xL 73 q_extract ?_ <;> refine xL 74 q_extract ?_ <;> (refine aL_heap [(1000, _, _), (2, _, _), (3, _, _)] ⟨rfl, rfl, rfl, trivial⟩ ?_; refine aL_chF [2, 3] 75 (Tryz.call48) (autLaws1_e m e1 _ h5 _) ?_; rintro v75 _ _ ⟨rfl, rfl⟩) <;> refine s_alloc [(.int .i64 0), (.int .i64 0), (.slice none 0 0), (.slice none 0 0), (.slice none 0 0)] 5 7 tZr25_LfD fun h7 => ?_ <;> refine s_sta 7 tAgg25_LdS ?_ <;> refine aL_end (nav ?_) <;> try dsimp only)
          exact aN_join _ ⟨rfl, rfl, rfl, rfl, rfl, trivial⟩ ⟨rfl, rfl, rfl, rfl, trivial⟩
        · rintro h7
          skip
          refine nav ?_
          refine aC_mid (fun h8 : Value => ⟨[(2, padd (sbase h2) 0, .val (padd (sbase h2) 0)), (3, padd (sbase h3) 0, .val (padd (sbase h3) 0)), (7, padd (sbase h7) 0, .val (padd (sbase h7) 0)), (8, padd (sbase h8) 0, .val (padd (sbase h8) 0)), (5, padd (sbase h5) 0, .val (padd (sbase h5) 0)), (6, .func (.func 48) #[] #[padd (sbase h5) 0], .fn 48 [.val (padd (sbase h5) 0)])], [(1000, h5, .own 4 1 1 [pBool (limB [e1, e2])]), (2, h2, .own 25 5 1 [pInt a.n, pInt a.syms, pInts a.start, pInts a.fin, pMvs a.moves]), (3, h3, .own 25 5 1 [pInt b.n, pInt b.syms, pInts b.start, pInts b.fin, pMvs b.moves]), (7, h7, .own 25 5 1 [pInt m.n, pInt m.syms, pInts m.start, pInts m.fin, pMvs m.moves]), (8, h8, .own 25 5 1 [pInt u.n, pInt u.syms, pInts u.start, pInts u.fin, pMvs u.moves])]⟩) ?_ ?_
          · (refine aC_region ?_ <;> refine xL 76 q_move ?_ <;> (refine yL 77 (q_ldao 2 tAgg25_LdS) fun v77 hv77 => ?_; cases hv77) <;> (refine yL 78 (q_ldao 3 tAgg25_LdS) fun v78 hv78 => ?_; cases hv78) <;> (refine cP 79 (cA Tryz.call40 (c2)) fun va79 vb79 hva79 hvb79 => ?_; cases hvb79) <;> refine xL 80 q_extract ?_ <;> refine xL 81 q_extract ?_ <;> (refine aL_chF [2, 3, 7] 82 (Tryz.call48) (autLaws1_e u e2 _ h5 _) ?_; rintro v82 _ _ ⟨rfl, rfl⟩) <;> refine s_alloc [(.int .i64 0), (.int .i64 0), (.slice none 0 0), (.slice none 0 0), (.slice none 0 0)] 5 8 tZr25_LfD fun h8 => ?_ <;> refine s_sta 8 tAgg25_LdS ?_ <;> refine aL_end (nav ?_) <;> try dsimp only)
            exact aN_join _ ⟨rfl, rfl, rfl, rfl, rfl, rfl, trivial⟩ ⟨rfl, rfl, rfl, rfl, rfl, trivial⟩
          · rintro h8
            skip
            refine nav ?_
            refine aC_mid (fun h9 : Value => ⟨[(2, padd (sbase h2) 0, .val (padd (sbase h2) 0)), (3, padd (sbase h3) 0, .val (padd (sbase h3) 0)), (7, padd (sbase h7) 0, .val (padd (sbase h7) 0)), (8, padd (sbase h8) 0, .val (padd (sbase h8) 0)), (9, padd (sbase h9) 0, .val (padd (sbase h9) 0)), (5, padd (sbase h5) 0, .val (padd (sbase h5) 0)), (6, .func (.func 48) #[] #[padd (sbase h5) 0], .fn 48 [.val (padd (sbase h5) 0)])], [(1000, h5, .own 4 1 1 [pBool (limB [e1, e2, e3])]), (2, h2, .own 25 5 1 [pInt a.n, pInt a.syms, pInts a.start, pInts a.fin, pMvs a.moves]), (3, h3, .own 25 5 1 [pInt b.n, pInt b.syms, pInts b.start, pInts b.fin, pMvs b.moves]), (7, h7, .own 25 5 1 [pInt m.n, pInt m.syms, pInts m.start, pInts m.fin, pMvs m.moves]), (8, h8, .own 25 5 1 [pInt u.n, pInt u.syms, pInts u.start, pInts u.fin, pMvs u.moves]), (9, h9, .own 25 5 1 [pInt nt.n, pInt nt.syms, pInts nt.start, pInts nt.fin, pMvs nt.moves])]⟩) ?_ ?_
            · (refine aC_region ?_ <;> refine xL 83 q_move ?_ <;> (refine yL 84 (q_ldao 8 tAgg25_LdS) fun v84 hv84 => ?_; cases hv84) <;> (refine cP 85 (cA Tryz.call28 (c3)) fun va85 vb85 hva85 hvb85 => ?_; cases hvb85) <;> refine xL 86 q_extract ?_ <;> refine xL 87 q_extract ?_ <;> (refine aL_chF [2, 3, 7, 8] 88 (Tryz.call48) (autLaws1_e nt e3 _ h5 _) ?_; rintro v88 _ _ ⟨rfl, rfl⟩) <;> refine s_alloc [(.int .i64 0), (.int .i64 0), (.slice none 0 0), (.slice none 0 0), (.slice none 0 0)] 5 9 tZr25_LfD fun h9 => ?_ <;> refine s_sta 9 tAgg25_LdS ?_ <;> refine aL_end (nav ?_) <;> try dsimp only)
              exact aN_join _ ⟨rfl, rfl, rfl, rfl, rfl, rfl, rfl, trivial⟩ ⟨rfl, rfl, rfl, rfl, rfl, rfl, trivial⟩
            · rintro h9
              skip
              refine nav ?_
              refine aC_mid (fun h10 : Value => ⟨[(2, padd (sbase h2) 0, .val (padd (sbase h2) 0)), (3, padd (sbase h3) 0, .val (padd (sbase h3) 0)), (7, padd (sbase h7) 0, .val (padd (sbase h7) 0)), (8, padd (sbase h8) 0, .val (padd (sbase h8) 0)), (9, padd (sbase h9) 0, .val (padd (sbase h9) 0)), (10, padd (sbase h10) 0, .val (padd (sbase h10) 0)), (5, padd (sbase h5) 0, .val (padd (sbase h5) 0)), (6, .func (.func 48) #[] #[padd (sbase h5) 0], .fn 48 [.val (padd (sbase h5) 0)])], [(1000, h5, .own 4 1 1 [pBool (limB [e1, e2, e3, e4, e5, e6])]), (2, h2, .own 25 5 1 [pInt a.n, pInt a.syms, pInts a.start, pInts a.fin, pMvs a.moves]), (3, h3, .own 25 5 1 [pInt b.n, pInt b.syms, pInts b.start, pInts b.fin, pMvs b.moves]), (7, h7, .own 25 5 1 [pInt m.n, pInt m.syms, pInts m.start, pInts m.fin, pMvs m.moves]), (8, h8, .own 25 5 1 [pInt u.n, pInt u.syms, pInts u.start, pInts u.fin, pMvs u.moves]), (9, h9, .own 25 5 1 [pInt nt.n, pInt nt.syms, pInts nt.start, pInts nt.fin, pMvs nt.moves]), (10, h10, .own 25 5 1 [pInt bo.n, pInt bo.syms, pInts bo.start, pInts bo.fin, pMvs bo.moves])]⟩) ?_ ?_
              · (refine aC_draw (fun i => ([] : List Nat).elem i) [2, 3] (by kernel_rfl) ?_ <;> refine xD 0 89 rfl q_move ?_ <;> refine xD 1 90 rfl q_move ?_ <;> (refine yD 2 91 rfl (q_ldao 2 tAgg25_LdS) fun v91 hv91 => ?_; cases hv91) <;> refine xD 7 96 rfl q_move ?_ <;> (refine yD 8 97 rfl (q_ldao 3 tAgg25_LdS) fun v97 hv97 => ?_; cases hv97) <;> (refine aD_two 3 17 (by kernel_rfl) ?_ ?_; rotate_right; (focus ((refine aW_run rfl fun w9 M9 N9 DQ back => ?_) <;> refine s_alloc [(.int .i64 0), (.int .i64 0), (.slice none 0 0), (.slice none 0 0), (.slice none 0 0)] 5 10 tZr25_LfD fun h10 => ?_ <;> refine aL_end (back _ (nrm ?_)) <;> (refine aD_one 3 (by kernel_rfl) ?_) <;> (refine aW_run rfl fun w9 M9 N9 DQ back => ?_) <;> (refine cP 92 (cA Tryz.call28 (c4)) fun va92 vb92 hva92 hvb92 => ?_; cases hvb92) <;> refine aL_end (back _ (nrm ?_)) <;> refine xD 4 93 rfl q_extract ?_ <;> refine xE 5 94 rfl q_extract ?_ <;> (refine aD_one 6 (by kernel_rfl) ?_) <;> (refine aW_run rfl fun w9 M9 N9 DQ back => ?_) <;> (refine aL_chF [7, 8, 9, 10] 95 (Tryz.call48) (autLaws1_e ca e4 _ h5 _) ?_; rintro v95 _ _ ⟨rfl, rfl⟩) <;> refine aL_end (back _ (nrm ?_)) <;> (refine aD_one 9 (by kernel_rfl) ?_) <;> (refine aW_run rfl fun w9 M9 N9 DQ back => ?_) <;> (refine cP 98 (cA Tryz.call28 (c5)) fun va98 vb98 hva98 hvb98 => ?_; cases hvb98) <;> refine aL_end (back _ (nrm ?_)) <;> refine xD 10 99 rfl q_extract ?_ <;> refine xE 11 100 rfl q_extract ?_ <;> (refine aD_one 12 (by kernel_rfl) ?_) <;> (refine aW_run rfl fun w9 M9 N9 DQ back => ?_) <;> (refine aL_chF [7, 8, 9, 10] 101 (Tryz.call48) (autLaws1_e cb e5 _ h5 _) ?_; rintro v101 _ _ ⟨rfl, rfl⟩) <;> refine aL_end (back _ (nrm ?_)) <;> (refine aD_one 13 (by kernel_rfl) ?_) <;> (refine aW_run rfl fun w9 M9 N9 DQ back => ?_) <;> (refine cP 102 (cA Tryz.call18 (c6)) fun va102 vb102 hva102 hvb102 => ?_; cases hvb102) <;> refine aL_end (back _ (nrm ?_)) <;> refine xD 14 103 rfl q_extract ?_ <;> refine xE 15 104 rfl q_extract ?_ <;> (refine aD_one 16 (by kernel_rfl) ?_) <;> (refine aW_run rfl fun w9 M9 N9 DQ back => ?_) <;> (refine aL_chF [7, 8, 9, 10] 105 (Tryz.call48) (autLaws1_e bo e6 _ h5 _) ?_; rintro v105 _ _ ⟨rfl, rfl⟩) <;> refine aL_end (back _ (nrm ?_)) <;> (refine aD_one 18 (by kernel_rfl) ?_) <;> (refine aW_run rfl fun w9 M9 N9 DQ back => ?_) <;> refine s_sta 10 tAgg25_LdS ?_ <;> refine aL_end (back _ (nrm ?_)))); rotate_right; (focus ((refine aW_run rfl fun w9 M9 N9 DQ back => ?_) <;> (refine cP 92 (cA Tryz.call28 (c4)) fun va92 vb92 hva92 hvb92 => ?_; cases hvb92) <;> refine aL_end (back _ (nrm ?_)) <;> refine xD 4 93 rfl q_extract ?_ <;> refine xD 5 94 rfl q_extract ?_ <;> (refine aD_two 6 17 (by kernel_rfl) ?_ ?_; rotate_right; (focus ((refine aW_run rfl fun w9 M9 N9 DQ back => ?_) <;> refine s_alloc [(.int .i64 0), (.int .i64 0), (.slice none 0 0), (.slice none 0 0), (.slice none 0 0)] 5 10 tZr25_LfD fun h10 => ?_ <;> refine aL_end (back _ (nrm ?_)) <;> (refine aD_one 6 (by kernel_rfl) ?_) <;> (refine aW_run rfl fun w9 M9 N9 DQ back => ?_) <;> (refine aL_chF [7, 8, 9, 10] 95 (Tryz.call48) (autLaws1_e ca e4 _ h5 _) ?_; rintro v95 _ _ ⟨rfl, rfl⟩) <;> refine aL_end (back _ (nrm ?_)) <;> (refine aD_one 9 (by kernel_rfl) ?_) <;> (refine aW_run rfl fun w9 M9 N9 DQ back => ?_) <;> (refine cP 98 (cA Tryz.call28 (c5)) fun va98 vb98 hva98 hvb98 => ?_; cases hvb98) <;> refine aL_end (back _ (nrm ?_)) <;> refine xD 10 99 rfl q_extract ?_ <;> refine xE 11 100 rfl q_extract ?_ <;> (refine aD_one 12 (by kernel_rfl) ?_) <;> (refine aW_run rfl fun w9 M9 N9 DQ back => ?_) <;> (refine aL_chF [7, 8, 9, 10] 101 (Tryz.call48) (autLaws1_e cb e5 _ h5 _) ?_; rintro v101 _ _ ⟨rfl, rfl⟩) <;> refine aL_end (back _ (nrm ?_)) <;> (refine aD_one 13 (by kernel_rfl) ?_) <;> (refine aW_run rfl fun w9 M9 N9 DQ back => ?_) <;> (refine cP 102 (cA Tryz.call18 (c6)) fun va102 vb102 hva102 hvb102 => ?_; cases hvb102) <;> refine aL_end (back _ (nrm ?_)) <;> refine xD 14 103 rfl q_extract ?_ <;> refine xE 15 104 rfl q_extract ?_ <;> (refine aD_one 16 (by kernel_rfl) ?_) <;> (refine aW_run rfl fun w9 M9 N9 DQ back => ?_) <;> (refine aL_chF [7, 8, 9, 10] 105 (Tryz.call48) (autLaws1_e bo e6 _ h5 _) ?_; rintro v105 _ _ ⟨rfl, rfl⟩) <;> refine aL_end (back _ (nrm ?_)) <;> (refine aD_one 18 (by kernel_rfl) ?_) <;> (refine aW_run rfl fun w9 M9 N9 DQ back => ?_) <;> refine s_sta 10 tAgg25_LdS ?_ <;> refine aL_end (back _ (nrm ?_)))); rotate_right; (focus ((refine aW_run rfl fun w9 M9 N9 DQ back => ?_) <;> (refine aL_chF [7, 8, 9, 10] 95 (Tryz.call48) (autLaws1_e ca e4 _ h5 _) ?_; rintro v95 _ _ ⟨rfl, rfl⟩) <;> refine aL_end (back _ (nrm ?_)) <;> (refine aD_two 9 17 (by kernel_rfl) ?_ ?_; rotate_right; (focus ((refine aW_run rfl fun w9 M9 N9 DQ back => ?_) <;> refine s_alloc [(.int .i64 0), (.int .i64 0), (.slice none 0 0), (.slice none 0 0), (.slice none 0 0)] 5 10 tZr25_LfD fun h10 => ?_ <;> refine aL_end (back _ (nrm ?_)) <;> (refine aD_one 9 (by kernel_rfl) ?_) <;> (refine aW_run rfl fun w9 M9 N9 DQ back => ?_) <;> (refine cP 98 (cA Tryz.call28 (c5)) fun va98 vb98 hva98 hvb98 => ?_; cases hvb98) <;> refine aL_end (back _ (nrm ?_)) <;> refine xD 10 99 rfl q_extract ?_ <;> refine xE 11 100 rfl q_extract ?_ <;> (refine aD_one 12 (by kernel_rfl) ?_) <;> (refine aW_run rfl fun w9 M9 N9 DQ back => ?_) <;> (refine aL_chF [7, 8, 9, 10] 101 (Tryz.call48) (autLaws1_e cb e5 _ h5 _) ?_; rintro v101 _ _ ⟨rfl, rfl⟩) <;> refine aL_end (back _ (nrm ?_)) <;> (refine aD_one 13 (by kernel_rfl) ?_) <;> (refine aW_run rfl fun w9 M9 N9 DQ back => ?_) <;> (refine cP 102 (cA Tryz.call18 (c6)) fun va102 vb102 hva102 hvb102 => ?_; cases hvb102) <;> refine aL_end (back _ (nrm ?_)) <;> refine xD 14 103 rfl q_extract ?_ <;> refine xE 15 104 rfl q_extract ?_ <;> (refine aD_one 16 (by kernel_rfl) ?_) <;> (refine aW_run rfl fun w9 M9 N9 DQ back => ?_) <;> (refine aL_chF [7, 8, 9, 10] 105 (Tryz.call48) (autLaws1_e bo e6 _ h5 _) ?_; rintro v105 _ _ ⟨rfl, rfl⟩) <;> refine aL_end (back _ (nrm ?_)) <;> (refine aD_one 18 (by kernel_rfl) ?_) <;> (refine aW_run rfl fun w9 M9 N9 DQ back => ?_) <;> refine s_sta 10 tAgg25_LdS ?_ <;> refine aL_end (back _ (nrm ?_)))); rotate_right; (focus ((refine aW_run rfl fun w9 M9 N9 DQ back => ?_) <;> (refine cP 98 (cA Tryz.call28 (c5)) fun va98 vb98 hva98 hvb98 => ?_; cases hvb98) <;> refine aL_end (back _ (nrm ?_)) <;> refine xD 10 99 rfl q_extract ?_ <;> refine xD 11 100 rfl q_extract ?_ <;> (refine aD_two 12 17 (by kernel_rfl) ?_ ?_; rotate_right; (focus ((refine aW_run rfl fun w9 M9 N9 DQ back => ?_) <;> refine s_alloc [(.int .i64 0), (.int .i64 0), (.slice none 0 0), (.slice none 0 0), (.slice none 0 0)] 5 10 tZr25_LfD fun h10 => ?_ <;> refine aL_end (back _ (nrm ?_)) <;> (refine aD_one 12 (by kernel_rfl) ?_) <;> (refine aW_run rfl fun w9 M9 N9 DQ back => ?_) <;> (refine aL_chF [7, 8, 9, 10] 101 (Tryz.call48) (autLaws1_e cb e5 _ h5 _) ?_; rintro v101 _ _ ⟨rfl, rfl⟩) <;> refine aL_end (back _ (nrm ?_)) <;> (refine aD_one 13 (by kernel_rfl) ?_) <;> (refine aW_run rfl fun w9 M9 N9 DQ back => ?_) <;> (refine cP 102 (cA Tryz.call18 (c6)) fun va102 vb102 hva102 hvb102 => ?_; cases hvb102) <;> refine aL_end (back _ (nrm ?_)) <;> refine xD 14 103 rfl q_extract ?_ <;> refine xE 15 104 rfl q_extract ?_ <;> (refine aD_one 16 (by kernel_rfl) ?_) <;> (refine aW_run rfl fun w9 M9 N9 DQ back => ?_) <;> (refine aL_chF [7, 8, 9, 10] 105 (Tryz.call48) (autLaws1_e bo e6 _ h5 _) ?_; rintro v105 _ _ ⟨rfl, rfl⟩) <;> refine aL_end (back _ (nrm ?_)) <;> (refine aD_one 18 (by kernel_rfl) ?_) <;> (refine aW_run rfl fun w9 M9 N9 DQ back => ?_) <;> refine s_sta 10 tAgg25_LdS ?_ <;> refine aL_end (back _ (nrm ?_)))); rotate_right; (focus ((refine aW_run rfl fun w9 M9 N9 DQ back => ?_) <;> (refine aL_chF [7, 8, 9, 10] 101 (Tryz.call48) (autLaws1_e cb e5 _ h5 _) ?_; rintro v101 _ _ ⟨rfl, rfl⟩) <;> refine aL_end (back _ (nrm ?_)) <;> (refine aD_two 13 17 (by kernel_rfl) ?_ ?_; rotate_right; (focus ((refine aW_run rfl fun w9 M9 N9 DQ back => ?_) <;> refine s_alloc [(.int .i64 0), (.int .i64 0), (.slice none 0 0), (.slice none 0 0), (.slice none 0 0)] 5 10 tZr25_LfD fun h10 => ?_ <;> refine aL_end (back _ (nrm ?_)) <;> (refine aD_one 13 (by kernel_rfl) ?_) <;> (refine aW_run rfl fun w9 M9 N9 DQ back => ?_) <;> (refine cP 102 (cA Tryz.call18 (c6)) fun va102 vb102 hva102 hvb102 => ?_; cases hvb102) <;> refine aL_end (back _ (nrm ?_)) <;> refine xD 14 103 rfl q_extract ?_ <;> refine xE 15 104 rfl q_extract ?_ <;> (refine aD_one 16 (by kernel_rfl) ?_) <;> (refine aW_run rfl fun w9 M9 N9 DQ back => ?_) <;> (refine aL_chF [7, 8, 9, 10] 105 (Tryz.call48) (autLaws1_e bo e6 _ h5 _) ?_; rintro v105 _ _ ⟨rfl, rfl⟩) <;> refine aL_end (back _ (nrm ?_)) <;> (refine aD_one 18 (by kernel_rfl) ?_) <;> (refine aW_run rfl fun w9 M9 N9 DQ back => ?_) <;> refine s_sta 10 tAgg25_LdS ?_ <;> refine aL_end (back _ (nrm ?_)))); rotate_right; (focus ((refine aW_run rfl fun w9 M9 N9 DQ back => ?_) <;> (refine cP 102 (cA Tryz.call18 (c6)) fun va102 vb102 hva102 hvb102 => ?_; cases hvb102) <;> refine aL_end (back _ (nrm ?_)) <;> refine xD 14 103 rfl q_extract ?_ <;> refine xD 15 104 rfl q_extract ?_ <;> (refine aD_two 16 17 (by kernel_rfl) ?_ ?_; rotate_right; (focus ((refine aW_run rfl fun w9 M9 N9 DQ back => ?_) <;> refine s_alloc [(.int .i64 0), (.int .i64 0), (.slice none 0 0), (.slice none 0 0), (.slice none 0 0)] 5 10 tZr25_LfD fun h10 => ?_ <;> refine aL_end (back _ (nrm ?_)) <;> (refine aD_one 16 (by kernel_rfl) ?_) <;> (refine aW_run rfl fun w9 M9 N9 DQ back => ?_) <;> (refine aL_chF [7, 8, 9, 10] 105 (Tryz.call48) (autLaws1_e bo e6 _ h5 _) ?_; rintro v105 _ _ ⟨rfl, rfl⟩) <;> refine aL_end (back _ (nrm ?_)) <;> (refine aD_one 18 (by kernel_rfl) ?_) <;> (refine aW_run rfl fun w9 M9 N9 DQ back => ?_) <;> refine s_sta 10 tAgg25_LdS ?_ <;> refine aL_end (back _ (nrm ?_)))); rotate_right; (focus ((refine aW_run rfl fun w9 M9 N9 DQ back => ?_) <;> (refine aL_chF [7, 8, 9, 10] 105 (Tryz.call48) (autLaws1_e bo e6 _ h5 _) ?_; rintro v105 _ _ ⟨rfl, rfl⟩) <;> refine aL_end (back _ (nrm ?_)) <;> (refine aD_one 17 (by kernel_rfl) ?_) <;> (refine aW_run rfl fun w9 M9 N9 DQ back => ?_) <;> refine s_alloc [(.int .i64 0), (.int .i64 0), (.slice none 0 0), (.slice none 0 0), (.slice none 0 0)] 5 10 tZr25_LfD fun h10 => ?_ <;> refine aL_end (back _ (nrm ?_)) <;> (refine aD_one 18 (by kernel_rfl) ?_) <;> (refine aW_run rfl fun w9 M9 N9 DQ back => ?_) <;> refine s_sta 10 tAgg25_LdS ?_ <;> refine aL_end (back _ (nrm ?_)))))))))))))))))))) <;> refine aD_end (by kernel_rfl) (nav ?_) <;> try dsimp only) <;> (
                 exact aN_join _ ⟨rfl, rfl, rfl, rfl, rfl, rfl, rfl, rfl, trivial⟩ ⟨rfl, rfl, rfl, rfl, rfl, rfl, rfl, trivial⟩)
              · rintro h10
                skip
                refine nav ?_
                refine aC_mid (fun h11 : Value => ⟨[(2, padd (sbase h2) 0, .val (padd (sbase h2) 0)), (3, padd (sbase h3) 0, .val (padd (sbase h3) 0)), (7, padd (sbase h7) 0, .val (padd (sbase h7) 0)), (8, padd (sbase h8) 0, .val (padd (sbase h8) 0)), (9, padd (sbase h9) 0, .val (padd (sbase h9) 0)), (10, padd (sbase h10) 0, .val (padd (sbase h10) 0)), (11, padd (sbase h11) 0, .val (padd (sbase h11) 0)), (5, padd (sbase h5) 0, .val (padd (sbase h5) 0)), (6, .func (.func 48) #[] #[padd (sbase h5) 0], .fn 48 [.val (padd (sbase h5) 0)])], [(1000, h5, .own 4 1 1 [pBool (limB [e1, e2, e3, e4, e5, e6, e7])]), (2, h2, .own 25 5 1 [pInt a.n, pInt a.syms, pInts a.start, pInts a.fin, pMvs a.moves]), (3, h3, .own 25 5 1 [pInt b.n, pInt b.syms, pInts b.start, pInts b.fin, pMvs b.moves]), (7, h7, .own 25 5 1 [pInt m.n, pInt m.syms, pInts m.start, pInts m.fin, pMvs m.moves]), (8, h8, .own 25 5 1 [pInt u.n, pInt u.syms, pInts u.start, pInts u.fin, pMvs u.moves]), (9, h9, .own 25 5 1 [pInt nt.n, pInt nt.syms, pInts nt.start, pInts nt.fin, pMvs nt.moves]), (10, h10, .own 25 5 1 [pInt bo.n, pInt bo.syms, pInts bo.start, pInts bo.fin, pMvs bo.moves]), (11, h11, .own 25 5 1 [pInt st.n, pInt st.syms, pInts st.start, pInts st.fin, pMvs st.moves])]⟩) ?_ ?_
                · (refine aC_region ?_ <;> refine xL 106 q_move ?_ <;> (refine yL 107 (q_ldao 2 tAgg25_LdS) fun v107 hv107 => ?_; cases hv107) <;> (refine cP 108 (cA Tryz.call44 (c7)) fun va108 vb108 hva108 hvb108 => ?_; cases hvb108) <;> refine xL 109 q_extract ?_ <;> refine xL 110 q_extract ?_ <;> (refine aL_chF [2, 3, 7, 8, 9, 10] 111 (Tryz.call48) (autLaws1_e st e7 _ h5 _) ?_; rintro v111 _ _ ⟨rfl, rfl⟩) <;> refine s_alloc [(.int .i64 0), (.int .i64 0), (.slice none 0 0), (.slice none 0 0), (.slice none 0 0)] 5 11 tZr25_LfD fun h11 => ?_ <;> refine s_sta 11 tAgg25_LdS ?_ <;> refine aL_end (nav ?_) <;> try dsimp only)
                  exact aN_join _ ⟨rfl, rfl, rfl, rfl, rfl, rfl, rfl, rfl, rfl, trivial⟩ ⟨rfl, rfl, rfl, rfl, rfl, rfl, rfl, rfl, trivial⟩
                · rintro h11
                  skip
                  refine nav ?_
                  refine aC_mid (fun h12 : Value => ⟨[(2, padd (sbase h2) 0, .val (padd (sbase h2) 0)), (3, padd (sbase h3) 0, .val (padd (sbase h3) 0)), (7, padd (sbase h7) 0, .val (padd (sbase h7) 0)), (8, padd (sbase h8) 0, .val (padd (sbase h8) 0)), (9, padd (sbase h9) 0, .val (padd (sbase h9) 0)), (10, padd (sbase h10) 0, .val (padd (sbase h10) 0)), (11, padd (sbase h11) 0, .val (padd (sbase h11) 0)), (12, padd (sbase h12) 0, .val (padd (sbase h12) 0)), (5, padd (sbase h5) 0, .val (padd (sbase h5) 0)), (6, .func (.func 48) #[] #[padd (sbase h5) 0], .fn 48 [.val (padd (sbase h5) 0)])], [(1000, h5, .own 4 1 1 [pBool (limB [e1, e2, e3, e4, e5, e6, e7, e8])]), (2, h2, .own 25 5 1 [pInt a.n, pInt a.syms, pInts a.start, pInts a.fin, pMvs a.moves]), (3, h3, .own 25 5 1 [pInt b.n, pInt b.syms, pInts b.start, pInts b.fin, pMvs b.moves]), (7, h7, .own 25 5 1 [pInt m.n, pInt m.syms, pInts m.start, pInts m.fin, pMvs m.moves]), (8, h8, .own 25 5 1 [pInt u.n, pInt u.syms, pInts u.start, pInts u.fin, pMvs u.moves]), (9, h9, .own 25 5 1 [pInt nt.n, pInt nt.syms, pInts nt.start, pInts nt.fin, pMvs nt.moves]), (10, h10, .own 25 5 1 [pInt bo.n, pInt bo.syms, pInts bo.start, pInts bo.fin, pMvs bo.moves]), (11, h11, .own 25 5 1 [pInt st.n, pInt st.syms, pInts st.start, pInts st.fin, pMvs st.moves]), (12, h12, .own 25 5 1 [pInt tw.n, pInt tw.syms, pInts tw.start, pInts tw.fin, pMvs tw.moves])]⟩) ?_ ?_
                  · (refine aC_region ?_ <;> refine xL 112 q_move ?_ <;> (refine yL 113 (q_ldao 11 tAgg25_LdS) fun v113 hv113 => ?_; cases hv113) <;> (refine cP 114 (cA Tryz.call44 (c8)) fun va114 vb114 hva114 hvb114 => ?_; cases hvb114) <;> refine xL 115 q_extract ?_ <;> refine xL 116 q_extract ?_ <;> (refine aL_chF [2, 3, 7, 8, 9, 10, 11] 117 (Tryz.call48) (autLaws1_e tw e8 _ h5 _) ?_; rintro v117 _ _ ⟨rfl, rfl⟩) <;> refine s_alloc [(.int .i64 0), (.int .i64 0), (.slice none 0 0), (.slice none 0 0), (.slice none 0 0)] 5 12 tZr25_LfD fun h12 => ?_ <;> refine s_sta 12 tAgg25_LdS ?_ <;> refine aL_end (nav ?_) <;> try dsimp only)
                    exact aN_join _ ⟨rfl, rfl, rfl, rfl, rfl, rfl, rfl, rfl, rfl, rfl, trivial⟩ ⟨rfl, rfl, rfl, rfl, rfl, rfl, rfl, rfl, rfl, trivial⟩
                  · rintro h12
                    skip
                    refine nav ?_
                    refine aC_mid (fun h13 : Value => ⟨[(2, padd (sbase h2) 0, .val (padd (sbase h2) 0)), (3, padd (sbase h3) 0, .val (padd (sbase h3) 0)), (7, padd (sbase h7) 0, .val (padd (sbase h7) 0)), (8, padd (sbase h8) 0, .val (padd (sbase h8) 0)), (9, padd (sbase h9) 0, .val (padd (sbase h9) 0)), (10, padd (sbase h10) 0, .val (padd (sbase h10) 0)), (11, padd (sbase h11) 0, .val (padd (sbase h11) 0)), (12, padd (sbase h12) 0, .val (padd (sbase h12) 0)), (13, padd (sbase h13) 0, .val (padd (sbase h13) 0)), (5, padd (sbase h5) 0, .val (padd (sbase h5) 0)), (6, .func (.func 48) #[] #[padd (sbase h5) 0], .fn 48 [.val (padd (sbase h5) 0)])], [(1000, h5, .own 4 1 1 [pBool (limB [e1, e2, e3, e4, e5, e6, e7, e8, e9, e10])]), (2, h2, .own 25 5 1 [pInt a.n, pInt a.syms, pInts a.start, pInts a.fin, pMvs a.moves]), (3, h3, .own 25 5 1 [pInt b.n, pInt b.syms, pInts b.start, pInts b.fin, pMvs b.moves]), (7, h7, .own 25 5 1 [pInt m.n, pInt m.syms, pInts m.start, pInts m.fin, pMvs m.moves]), (8, h8, .own 25 5 1 [pInt u.n, pInt u.syms, pInts u.start, pInts u.fin, pMvs u.moves]), (9, h9, .own 25 5 1 [pInt nt.n, pInt nt.syms, pInts nt.start, pInts nt.fin, pMvs nt.moves]), (10, h10, .own 25 5 1 [pInt bo.n, pInt bo.syms, pInts bo.start, pInts bo.fin, pMvs bo.moves]), (11, h11, .own 25 5 1 [pInt st.n, pInt st.syms, pInts st.start, pInts st.fin, pMvs st.moves]), (12, h12, .own 25 5 1 [pInt tw.n, pInt tw.syms, pInts tw.start, pInts tw.fin, pMvs tw.moves]), (13, h13, .own 25 5 1 [pInt bk.n, pInt bk.syms, pInts bk.start, pInts bk.fin, pMvs bk.moves])]⟩) ?_ ?_
                    · (refine aC_region ?_ <;> refine xL 118 q_move ?_ <;> refine xL 119 q_move ?_ <;> (refine yL 120 (q_ldao 2 tAgg25_LdS) fun v120 hv120 => ?_; cases hv120) <;> (refine cP 121 (cA Tryz.call46 (c9)) fun va121 vb121 hva121 hvb121 => ?_; cases hvb121) <;> refine xL 122 q_extract ?_ <;> refine xL 123 q_extract ?_ <;> (refine aL_chF [2, 3, 7, 8, 9, 10, 11, 12] 124 (Tryz.call48) (autLaws1_e ra e9 _ h5 _) ?_; rintro v124 _ _ ⟨rfl, rfl⟩) <;> (refine cP 125 (cA Tryz.call46 (c10)) fun va125 vb125 hva125 hvb125 => ?_; cases hvb125) <;> refine xL 126 q_extract ?_ <;> refine xL 127 q_extract ?_ <;> (refine aL_chF [2, 3, 7, 8, 9, 10, 11, 12] 128 (Tryz.call48) (autLaws1_e bk e10 _ h5 _) ?_; rintro v128 _ _ ⟨rfl, rfl⟩) <;> refine s_alloc [(.int .i64 0), (.int .i64 0), (.slice none 0 0), (.slice none 0 0), (.slice none 0 0)] 5 13 tZr25_LfD fun h13 => ?_ <;> refine s_sta 13 tAgg25_LdS ?_ <;> refine aL_end (nav ?_) <;> try dsimp only)
                      exact aN_join _ ⟨rfl, rfl, rfl, rfl, rfl, rfl, rfl, rfl, rfl, rfl, rfl, trivial⟩ ⟨rfl, rfl, rfl, rfl, rfl, rfl, rfl, rfl, rfl, rfl, trivial⟩
                    · rintro h13
                      skip
                      refine nav ?_
                      refine aC_mid (fun h14 : Value => ⟨[(2, padd (sbase h2) 0, .val (padd (sbase h2) 0)), (3, padd (sbase h3) 0, .val (padd (sbase h3) 0)), (7, padd (sbase h7) 0, .val (padd (sbase h7) 0)), (8, padd (sbase h8) 0, .val (padd (sbase h8) 0)), (9, padd (sbase h9) 0, .val (padd (sbase h9) 0)), (10, padd (sbase h10) 0, .val (padd (sbase h10) 0)), (11, padd (sbase h11) 0, .val (padd (sbase h11) 0)), (12, padd (sbase h12) 0, .val (padd (sbase h12) 0)), (13, padd (sbase h13) 0, .val (padd (sbase h13) 0)), (14, padd (sbase h14) 0, .val (padd (sbase h14) 0)), (5, padd (sbase h5) 0, .val (padd (sbase h5) 0)), (6, .func (.func 48) #[] #[padd (sbase h5) 0], .fn 48 [.val (padd (sbase h5) 0)])], [(1000, h5, .own 4 1 1 [pBool (limB [e1, e2, e3, e4, e5, e6, e7, e8, e9, e10, e11, e12])]), (2, h2, .own 25 5 1 [pInt a.n, pInt a.syms, pInts a.start, pInts a.fin, pMvs a.moves]), (3, h3, .own 25 5 1 [pInt b.n, pInt b.syms, pInts b.start, pInts b.fin, pMvs b.moves]), (7, h7, .own 25 5 1 [pInt m.n, pInt m.syms, pInts m.start, pInts m.fin, pMvs m.moves]), (8, h8, .own 25 5 1 [pInt u.n, pInt u.syms, pInts u.start, pInts u.fin, pMvs u.moves]), (9, h9, .own 25 5 1 [pInt nt.n, pInt nt.syms, pInts nt.start, pInts nt.fin, pMvs nt.moves]), (10, h10, .own 25 5 1 [pInt bo.n, pInt bo.syms, pInts bo.start, pInts bo.fin, pMvs bo.moves]), (11, h11, .own 25 5 1 [pInt st.n, pInt st.syms, pInts st.start, pInts st.fin, pMvs st.moves]), (12, h12, .own 25 5 1 [pInt tw.n, pInt tw.syms, pInts tw.start, pInts tw.fin, pMvs tw.moves]), (13, h13, .own 25 5 1 [pInt bk.n, pInt bk.syms, pInts bk.start, pInts bk.fin, pMvs bk.moves]), (14, h14, .own 25 5 1 [pInt x.n, pInt x.syms, pInts x.start, pInts x.fin, pMvs x.moves])]⟩) ?_ ?_
                      · (refine aC_region ?_ <;> refine xL 129 q_move ?_ <;> refine xL 130 q_move ?_ <;> (refine yL 131 (q_ldao 2 tAgg25_LdS) fun v131 hv131 => ?_; cases hv131) <;> (refine yL 132 (q_ldao 3 tAgg25_LdS) fun v132 hv132 => ?_; cases hv132) <;> (refine cP 133 (cA Tryz.call42 (c11)) fun va133 vb133 hva133 hvb133 => ?_; cases hvb133) <;> refine xL 134 q_extract ?_ <;> refine xL 135 q_extract ?_ <;> (refine aL_chF [2, 3, 7, 8, 9, 10, 11, 12, 13] 136 (Tryz.call48) (autLaws1_e cc e11 _ h5 _) ?_; rintro v136 _ _ ⟨rfl, rfl⟩) <;> (refine cP 137 (cA Tryz.call46 (c12)) fun va137 vb137 hva137 hvb137 => ?_; cases hvb137) <;> refine xL 138 q_extract ?_ <;> refine xL 139 q_extract ?_ <;> (refine aL_chF [2, 3, 7, 8, 9, 10, 11, 12, 13] 140 (Tryz.call48) (autLaws1_e x e12 _ h5 _) ?_; rintro v140 _ _ ⟨rfl, rfl⟩) <;> refine s_alloc [(.int .i64 0), (.int .i64 0), (.slice none 0 0), (.slice none 0 0), (.slice none 0 0)] 5 14 tZr25_LfD fun h14 => ?_ <;> refine s_sta 14 tAgg25_LdS ?_ <;> refine aL_end (nav ?_) <;> try dsimp only)
                        exact aN_join _ ⟨rfl, rfl, rfl, rfl, rfl, rfl, rfl, rfl, rfl, rfl, rfl, rfl, trivial⟩ ⟨rfl, rfl, rfl, rfl, rfl, rfl, rfl, rfl, rfl, rfl, rfl, trivial⟩
                      · rintro h14
                        skip
                        refine nav ?_
                        refine aC_mid (fun h15 : Value => ⟨[(2, padd (sbase h2) 0, .val (padd (sbase h2) 0)), (3, padd (sbase h3) 0, .val (padd (sbase h3) 0)), (7, padd (sbase h7) 0, .val (padd (sbase h7) 0)), (8, padd (sbase h8) 0, .val (padd (sbase h8) 0)), (9, padd (sbase h9) 0, .val (padd (sbase h9) 0)), (10, padd (sbase h10) 0, .val (padd (sbase h10) 0)), (11, padd (sbase h11) 0, .val (padd (sbase h11) 0)), (12, padd (sbase h12) 0, .val (padd (sbase h12) 0)), (13, padd (sbase h13) 0, .val (padd (sbase h13) 0)), (14, padd (sbase h14) 0, .val (padd (sbase h14) 0)), (15, padd (sbase h15) 0, .val (padd (sbase h15) 0)), (5, padd (sbase h5) 0, .val (padd (sbase h5) 0)), (6, .func (.func 48) #[] #[padd (sbase h5) 0], .fn 48 [.val (padd (sbase h5) 0)])], [(1000, h5, .own 4 1 1 [pBool (limB [e1, e2, e3, e4, e5, e6, e7, e8, e9, e10, e11, e12, e13, e9, e14])]), (2, h2, .own 25 5 1 [pInt a.n, pInt a.syms, pInts a.start, pInts a.fin, pMvs a.moves]), (3, h3, .own 25 5 1 [pInt b.n, pInt b.syms, pInts b.start, pInts b.fin, pMvs b.moves]), (7, h7, .own 25 5 1 [pInt m.n, pInt m.syms, pInts m.start, pInts m.fin, pMvs m.moves]), (8, h8, .own 25 5 1 [pInt u.n, pInt u.syms, pInts u.start, pInts u.fin, pMvs u.moves]), (9, h9, .own 25 5 1 [pInt nt.n, pInt nt.syms, pInts nt.start, pInts nt.fin, pMvs nt.moves]), (10, h10, .own 25 5 1 [pInt bo.n, pInt bo.syms, pInts bo.start, pInts bo.fin, pMvs bo.moves]), (11, h11, .own 25 5 1 [pInt st.n, pInt st.syms, pInts st.start, pInts st.fin, pMvs st.moves]), (12, h12, .own 25 5 1 [pInt tw.n, pInt tw.syms, pInts tw.start, pInts tw.fin, pMvs tw.moves]), (13, h13, .own 25 5 1 [pInt bk.n, pInt bk.syms, pInts bk.start, pInts bk.fin, pMvs bk.moves]), (14, h14, .own 25 5 1 [pInt x.n, pInt x.syms, pInts x.start, pInts x.fin, pMvs x.moves]), (15, h15, .own 25 5 1 [pInt y.n, pInt y.syms, pInts y.start, pInts y.fin, pMvs y.moves])]⟩) ?_ ?_
                        · (refine aC_draw (fun i => ([] : List Nat).elem i) [2, 3] (by kernel_rfl) ?_ <;> refine xD 0 141 rfl q_move ?_ <;> refine xD 1 142 rfl q_move ?_ <;> (refine yD 2 143 rfl (q_ldao 3 tAgg25_LdS) fun v143 hv143 => ?_; cases hv143) <;> refine xD 7 148 rfl q_move ?_ <;> (refine yD 8 149 rfl (q_ldao 2 tAgg25_LdS) fun v149 hv149 => ?_; cases hv149) <;> (refine aD_two 3 17 (by kernel_rfl) ?_ ?_; rotate_right; (focus ((refine aW_run rfl fun w9 M9 N9 DQ back => ?_) <;> refine s_alloc [(.int .i64 0), (.int .i64 0), (.slice none 0 0), (.slice none 0 0), (.slice none 0 0)] 5 15 tZr25_LfD fun h15 => ?_ <;> refine aL_end (back _ (nrm ?_)) <;> (refine aD_one 3 (by kernel_rfl) ?_) <;> (refine aW_run rfl fun w9 M9 N9 DQ back => ?_) <;> (refine cP 144 (cA Tryz.call46 (c13)) fun va144 vb144 hva144 hvb144 => ?_; cases hvb144) <;> refine aL_end (back _ (nrm ?_)) <;> refine xD 4 145 rfl q_extract ?_ <;> refine xE 5 146 rfl q_extract ?_ <;> (refine aD_one 6 (by kernel_rfl) ?_) <;> (refine aW_run rfl fun w9 M9 N9 DQ back => ?_) <;> (refine aL_chF [7, 8, 9, 10, 11, 12, 13, 14, 15] 147 (Tryz.call48) (autLaws1_e rb e13 _ h5 _) ?_; rintro v147 _ _ ⟨rfl, rfl⟩) <;> refine aL_end (back _ (nrm ?_)) <;> (refine aD_one 9 (by kernel_rfl) ?_) <;> (refine aW_run rfl fun w9 M9 N9 DQ back => ?_) <;> (refine cP 150 (cA Tryz.call46 (c9)) fun va150 vb150 hva150 hvb150 => ?_; cases hvb150) <;> refine aL_end (back _ (nrm ?_)) <;> refine xD 10 151 rfl q_extract ?_ <;> refine xE 11 152 rfl q_extract ?_ <;> (refine aD_one 12 (by kernel_rfl) ?_) <;> (refine aW_run rfl fun w9 M9 N9 DQ back => ?_) <;> (refine aL_chF [7, 8, 9, 10, 11, 12, 13, 14, 15] 153 (Tryz.call48) (autLaws1_e ra e9 _ h5 _) ?_; rintro v153 _ _ ⟨rfl, rfl⟩) <;> refine aL_end (back _ (nrm ?_)) <;> (refine aD_one 13 (by kernel_rfl) ?_) <;> (refine aW_run rfl fun w9 M9 N9 DQ back => ?_) <;> (refine cP 154 (cA Tryz.call42 (c14)) fun va154 vb154 hva154 hvb154 => ?_; cases hvb154) <;> refine aL_end (back _ (nrm ?_)) <;> refine xD 14 155 rfl q_extract ?_ <;> refine xE 15 156 rfl q_extract ?_ <;> (refine aD_one 16 (by kernel_rfl) ?_) <;> (refine aW_run rfl fun w9 M9 N9 DQ back => ?_) <;> (refine aL_chF [7, 8, 9, 10, 11, 12, 13, 14, 15] 157 (Tryz.call48) (autLaws1_e y e14 _ h5 _) ?_; rintro v157 _ _ ⟨rfl, rfl⟩) <;> refine aL_end (back _ (nrm ?_)) <;> (refine aD_one 18 (by kernel_rfl) ?_) <;> (refine aW_run rfl fun w9 M9 N9 DQ back => ?_) <;> refine s_sta 15 tAgg25_LdS ?_ <;> refine aL_end (back _ (nrm ?_)))); rotate_right; (focus ((refine aW_run rfl fun w9 M9 N9 DQ back => ?_) <;> (refine cP 144 (cA Tryz.call46 (c13)) fun va144 vb144 hva144 hvb144 => ?_; cases hvb144) <;> refine aL_end (back _ (nrm ?_)) <;> refine xD 4 145 rfl q_extract ?_ <;> refine xD 5 146 rfl q_extract ?_ <;> (refine aD_two 6 17 (by kernel_rfl) ?_ ?_; rotate_right; (focus ((refine aW_run rfl fun w9 M9 N9 DQ back => ?_) <;> refine s_alloc [(.int .i64 0), (.int .i64 0), (.slice none 0 0), (.slice none 0 0), (.slice none 0 0)] 5 15 tZr25_LfD fun h15 => ?_ <;> refine aL_end (back _ (nrm ?_)) <;> (refine aD_one 6 (by kernel_rfl) ?_) <;> (refine aW_run rfl fun w9 M9 N9 DQ back => ?_) <;> (refine aL_chF [7, 8, 9, 10, 11, 12, 13, 14, 15] 147 (Tryz.call48) (autLaws1_e rb e13 _ h5 _) ?_; rintro v147 _ _ ⟨rfl, rfl⟩) <;> refine aL_end (back _ (nrm ?_)) <;> (refine aD_one 9 (by kernel_rfl) ?_) <;> (refine aW_run rfl fun w9 M9 N9 DQ back => ?_) <;> (refine cP 150 (cA Tryz.call46 (c9)) fun va150 vb150 hva150 hvb150 => ?_; cases hvb150) <;> refine aL_end (back _ (nrm ?_)) <;> refine xD 10 151 rfl q_extract ?_ <;> refine xE 11 152 rfl q_extract ?_ <;> (refine aD_one 12 (by kernel_rfl) ?_) <;> (refine aW_run rfl fun w9 M9 N9 DQ back => ?_) <;> (refine aL_chF [7, 8, 9, 10, 11, 12, 13, 14, 15] 153 (Tryz.call48) (autLaws1_e ra e9 _ h5 _) ?_; rintro v153 _ _ ⟨rfl, rfl⟩) <;> refine aL_end (back _ (nrm ?_)) <;> (refine aD_one 13 (by kernel_rfl) ?_) <;> (refine aW_run rfl fun w9 M9 N9 DQ back => ?_) <;> (refine cP 154 (cA Tryz.call42 (c14)) fun va154 vb154 hva154 hvb154 => ?_; cases hvb154) <;> refine aL_end (back _ (nrm ?_)) <;> refine xD 14 155 rfl q_extract ?_ <;> refine xE 15 156 rfl q_extract ?_ <;> (refine aD_one 16 (by kernel_rfl) ?_) <;> (refine aW_run rfl fun w9 M9 N9 DQ back => ?_) <;> (refine aL_chF [7, 8, 9, 10, 11, 12, 13, 14, 15] 157 (Tryz.call48) (autLaws1_e y e14 _ h5 _) ?_; rintro v157 _ _ ⟨rfl, rfl⟩) <;> refine aL_end (back _ (nrm ?_)) <;> (refine aD_one 18 (by kernel_rfl) ?_) <;> (refine aW_run rfl fun w9 M9 N9 DQ back => ?_) <;> refine s_sta 15 tAgg25_LdS ?_ <;> refine aL_end (back _ (nrm ?_)))); rotate_right; (focus ((refine aW_run rfl fun w9 M9 N9 DQ back => ?_) <;> (refine aL_chF [7, 8, 9, 10, 11, 12, 13, 14, 15] 147 (Tryz.call48) (autLaws1_e rb e13 _ h5 _) ?_; rintro v147 _ _ ⟨rfl, rfl⟩) <;> refine aL_end (back _ (nrm ?_)) <;> (refine aD_two 9 17 (by kernel_rfl) ?_ ?_; rotate_right; (focus ((refine aW_run rfl fun w9 M9 N9 DQ back => ?_) <;> refine s_alloc [(.int .i64 0), (.int .i64 0), (.slice none 0 0), (.slice none 0 0), (.slice none 0 0)] 5 15 tZr25_LfD fun h15 => ?_ <;> refine aL_end (back _ (nrm ?_)) <;> (refine aD_one 9 (by kernel_rfl) ?_) <;> (refine aW_run rfl fun w9 M9 N9 DQ back => ?_) <;> (refine cP 150 (cA Tryz.call46 (c9)) fun va150 vb150 hva150 hvb150 => ?_; cases hvb150) <;> refine aL_end (back _ (nrm ?_)) <;> refine xD 10 151 rfl q_extract ?_ <;> refine xE 11 152 rfl q_extract ?_ <;> (refine aD_one 12 (by kernel_rfl) ?_) <;> (refine aW_run rfl fun w9 M9 N9 DQ back => ?_) <;> (refine aL_chF [7, 8, 9, 10, 11, 12, 13, 14, 15] 153 (Tryz.call48) (autLaws1_e ra e9 _ h5 _) ?_; rintro v153 _ _ ⟨rfl, rfl⟩) <;> refine aL_end (back _ (nrm ?_)) <;> (refine aD_one 13 (by kernel_rfl) ?_) <;> (refine aW_run rfl fun w9 M9 N9 DQ back => ?_) <;> (refine cP 154 (cA Tryz.call42 (c14)) fun va154 vb154 hva154 hvb154 => ?_; cases hvb154) <;> refine aL_end (back _ (nrm ?_)) <;> refine xD 14 155 rfl q_extract ?_ <;> refine xE 15 156 rfl q_extract ?_ <;> (refine aD_one 16 (by kernel_rfl) ?_) <;> (refine aW_run rfl fun w9 M9 N9 DQ back => ?_) <;> (refine aL_chF [7, 8, 9, 10, 11, 12, 13, 14, 15] 157 (Tryz.call48) (autLaws1_e y e14 _ h5 _) ?_; rintro v157 _ _ ⟨rfl, rfl⟩) <;> refine aL_end (back _ (nrm ?_)) <;> (refine aD_one 18 (by kernel_rfl) ?_) <;> (refine aW_run rfl fun w9 M9 N9 DQ back => ?_) <;> refine s_sta 15 tAgg25_LdS ?_ <;> refine aL_end (back _ (nrm ?_)))); rotate_right; (focus ((refine aW_run rfl fun w9 M9 N9 DQ back => ?_) <;> (refine cP 150 (cA Tryz.call46 (c9)) fun va150 vb150 hva150 hvb150 => ?_; cases hvb150) <;> refine aL_end (back _ (nrm ?_)) <;> refine xD 10 151 rfl q_extract ?_ <;> refine xD 11 152 rfl q_extract ?_ <;> (refine aD_two 12 17 (by kernel_rfl) ?_ ?_; rotate_right; (focus ((refine aW_run rfl fun w9 M9 N9 DQ back => ?_) <;> refine s_alloc [(.int .i64 0), (.int .i64 0), (.slice none 0 0), (.slice none 0 0), (.slice none 0 0)] 5 15 tZr25_LfD fun h15 => ?_ <;> refine aL_end (back _ (nrm ?_)) <;> (refine aD_one 12 (by kernel_rfl) ?_) <;> (refine aW_run rfl fun w9 M9 N9 DQ back => ?_) <;> (refine aL_chF [7, 8, 9, 10, 11, 12, 13, 14, 15] 153 (Tryz.call48) (autLaws1_e ra e9 _ h5 _) ?_; rintro v153 _ _ ⟨rfl, rfl⟩) <;> refine aL_end (back _ (nrm ?_)) <;> (refine aD_one 13 (by kernel_rfl) ?_) <;> (refine aW_run rfl fun w9 M9 N9 DQ back => ?_) <;> (refine cP 154 (cA Tryz.call42 (c14)) fun va154 vb154 hva154 hvb154 => ?_; cases hvb154) <;> refine aL_end (back _ (nrm ?_)) <;> refine xD 14 155 rfl q_extract ?_ <;> refine xE 15 156 rfl q_extract ?_ <;> (refine aD_one 16 (by kernel_rfl) ?_) <;> (refine aW_run rfl fun w9 M9 N9 DQ back => ?_) <;> (refine aL_chF [7, 8, 9, 10, 11, 12, 13, 14, 15] 157 (Tryz.call48) (autLaws1_e y e14 _ h5 _) ?_; rintro v157 _ _ ⟨rfl, rfl⟩) <;> refine aL_end (back _ (nrm ?_)) <;> (refine aD_one 18 (by kernel_rfl) ?_) <;> (refine aW_run rfl fun w9 M9 N9 DQ back => ?_) <;> refine s_sta 15 tAgg25_LdS ?_ <;> refine aL_end (back _ (nrm ?_)))); rotate_right; (focus ((refine aW_run rfl fun w9 M9 N9 DQ back => ?_) <;> (refine aL_chF [7, 8, 9, 10, 11, 12, 13, 14, 15] 153 (Tryz.call48) (autLaws1_e ra e9 _ h5 _) ?_; rintro v153 _ _ ⟨rfl, rfl⟩) <;> refine aL_end (back _ (nrm ?_)) <;> (refine aD_two 13 17 (by kernel_rfl) ?_ ?_; rotate_right; (focus ((refine aW_run rfl fun w9 M9 N9 DQ back => ?_) <;> refine s_alloc [(.int .i64 0), (.int .i64 0), (.slice none 0 0), (.slice none 0 0), (.slice none 0 0)] 5 15 tZr25_LfD fun h15 => ?_ <;> refine aL_end (back _ (nrm ?_)) <;> (refine aD_one 13 (by kernel_rfl) ?_) <;> (refine aW_run rfl fun w9 M9 N9 DQ back => ?_) <;> (refine cP 154 (cA Tryz.call42 (c14)) fun va154 vb154 hva154 hvb154 => ?_; cases hvb154) <;> refine aL_end (back _ (nrm ?_)) <;> refine xD 14 155 rfl q_extract ?_ <;> refine xE 15 156 rfl q_extract ?_ <;> (refine aD_one 16 (by kernel_rfl) ?_) <;> (refine aW_run rfl fun w9 M9 N9 DQ back => ?_) <;> (refine aL_chF [7, 8, 9, 10, 11, 12, 13, 14, 15] 157 (Tryz.call48) (autLaws1_e y e14 _ h5 _) ?_; rintro v157 _ _ ⟨rfl, rfl⟩) <;> refine aL_end (back _ (nrm ?_)) <;> (refine aD_one 18 (by kernel_rfl) ?_) <;> (refine aW_run rfl fun w9 M9 N9 DQ back => ?_) <;> refine s_sta 15 tAgg25_LdS ?_ <;> refine aL_end (back _ (nrm ?_)))); rotate_right; (focus ((refine aW_run rfl fun w9 M9 N9 DQ back => ?_) <;> (refine cP 154 (cA Tryz.call42 (c14)) fun va154 vb154 hva154 hvb154 => ?_; cases hvb154) <;> refine aL_end (back _ (nrm ?_)) <;> refine xD 14 155 rfl q_extract ?_ <;> refine xD 15 156 rfl q_extract ?_ <;> (refine aD_two 16 17 (by kernel_rfl) ?_ ?_; rotate_right; (focus ((refine aW_run rfl fun w9 M9 N9 DQ back => ?_) <;> refine s_alloc [(.int .i64 0), (.int .i64 0), (.slice none 0 0), (.slice none 0 0), (.slice none 0 0)] 5 15 tZr25_LfD fun h15 => ?_ <;> refine aL_end (back _ (nrm ?_)) <;> (refine aD_one 16 (by kernel_rfl) ?_) <;> (refine aW_run rfl fun w9 M9 N9 DQ back => ?_) <;> (refine aL_chF [7, 8, 9, 10, 11, 12, 13, 14, 15] 157 (Tryz.call48) (autLaws1_e y e14 _ h5 _) ?_; rintro v157 _ _ ⟨rfl, rfl⟩) <;> refine aL_end (back _ (nrm ?_)) <;> (refine aD_one 18 (by kernel_rfl) ?_) <;> (refine aW_run rfl fun w9 M9 N9 DQ back => ?_) <;> refine s_sta 15 tAgg25_LdS ?_ <;> refine aL_end (back _ (nrm ?_)))); rotate_right; (focus ((refine aW_run rfl fun w9 M9 N9 DQ back => ?_) <;> (refine aL_chF [7, 8, 9, 10, 11, 12, 13, 14, 15] 157 (Tryz.call48) (autLaws1_e y e14 _ h5 _) ?_; rintro v157 _ _ ⟨rfl, rfl⟩) <;> refine aL_end (back _ (nrm ?_)) <;> (refine aD_one 17 (by kernel_rfl) ?_) <;> (refine aW_run rfl fun w9 M9 N9 DQ back => ?_) <;> refine s_alloc [(.int .i64 0), (.int .i64 0), (.slice none 0 0), (.slice none 0 0), (.slice none 0 0)] 5 15 tZr25_LfD fun h15 => ?_ <;> refine aL_end (back _ (nrm ?_)) <;> (refine aD_one 18 (by kernel_rfl) ?_) <;> (refine aW_run rfl fun w9 M9 N9 DQ back => ?_) <;> refine s_sta 15 tAgg25_LdS ?_ <;> refine aL_end (back _ (nrm ?_)))))))))))))))))))) <;> refine aD_end (by kernel_rfl) (nav ?_) <;> try dsimp only) <;> (
                           exact aN_join _ ⟨rfl, rfl, rfl, rfl, rfl, rfl, rfl, rfl, rfl, rfl, rfl, rfl, rfl, trivial⟩ ⟨rfl, rfl, rfl, rfl, rfl, rfl, rfl, rfl, rfl, rfl, rfl, rfl, trivial⟩)
                        · rintro h15
                          skip
                          refine nav ?_
                          refine aC_mid (fun h16 : Value => ⟨[(2, padd (sbase h2) 0, .val (padd (sbase h2) 0)), (3, padd (sbase h3) 0, .val (padd (sbase h3) 0)), (7, padd (sbase h7) 0, .val (padd (sbase h7) 0)), (8, padd (sbase h8) 0, .val (padd (sbase h8) 0)), (9, padd (sbase h9) 0, .val (padd (sbase h9) 0)), (10, padd (sbase h10) 0, .val (padd (sbase h10) 0)), (11, padd (sbase h11) 0, .val (padd (sbase h11) 0)), (12, padd (sbase h12) 0, .val (padd (sbase h12) 0)), (13, padd (sbase h13) 0, .val (padd (sbase h13) 0)), (14, padd (sbase h14) 0, .val (padd (sbase h14) 0)), (15, padd (sbase h15) 0, .val (padd (sbase h15) 0)), (16, padd (sbase h16) 0, .val (padd (sbase h16) 0)), (5, padd (sbase h5) 0, .val (padd (sbase h5) 0)), (6, .func (.func 48) #[] #[padd (sbase h5) 0], .fn 48 [.val (padd (sbase h5) 0)])], [(1000, h5, .own 4 1 1 [pBool (limB [e1, e2, e3, e4, e5, e6, e7, e8, e9, e10, e11, e12, e13, e9, e14, e15])]), (2, h2, .own 25 5 1 [pInt a.n, pInt a.syms, pInts a.start, pInts a.fin, pMvs a.moves]), (3, h3, .own 25 5 1 [pInt b.n, pInt b.syms, pInts b.start, pInts b.fin, pMvs b.moves]), (7, h7, .own 25 5 1 [pInt m.n, pInt m.syms, pInts m.start, pInts m.fin, pMvs m.moves]), (8, h8, .own 25 5 1 [pInt u.n, pInt u.syms, pInts u.start, pInts u.fin, pMvs u.moves]), (9, h9, .own 25 5 1 [pInt nt.n, pInt nt.syms, pInts nt.start, pInts nt.fin, pMvs nt.moves]), (10, h10, .own 25 5 1 [pInt bo.n, pInt bo.syms, pInts bo.start, pInts bo.fin, pMvs bo.moves]), (11, h11, .own 25 5 1 [pInt st.n, pInt st.syms, pInts st.start, pInts st.fin, pMvs st.moves]), (12, h12, .own 25 5 1 [pInt tw.n, pInt tw.syms, pInts tw.start, pInts tw.fin, pMvs tw.moves]), (13, h13, .own 25 5 1 [pInt bk.n, pInt bk.syms, pInts bk.start, pInts bk.fin, pMvs bk.moves]), (14, h14, .own 25 5 1 [pInt x.n, pInt x.syms, pInts x.start, pInts x.fin, pMvs x.moves]), (15, h15, .own 25 5 1 [pInt y.n, pInt y.syms, pInts y.start, pInts y.fin, pMvs y.moves]), (16, h16, .own 25 5 1 [pInt ei.n, pInt ei.syms, pInts ei.start, pInts ei.fin, pMvs ei.moves])]⟩) ?_ ?_
                          · (refine aC_region ?_ <;> refine xL 158 q_move ?_ <;> (refine yL 159 (q_ldao 2 tAgg25_LdS) fun v159 hv159 => ?_; cases hv159) <;> (refine yL 160 (q_ldao 3 tAgg25_LdS) fun v160 hv160 => ?_; cases hv160) <;> (refine cP 161 (cA Tryz.call18 (c15)) fun va161 vb161 hva161 hvb161 => ?_; cases hvb161) <;> refine xL 162 q_extract ?_ <;> refine xL 163 q_extract ?_ <;> (refine aL_chF [2, 3, 7, 8, 9, 10, 11, 12, 13, 14, 15] 164 (Tryz.call48) (autLaws1_e ei e15 _ h5 _) ?_; rintro v164 _ _ ⟨rfl, rfl⟩) <;> refine s_alloc [(.int .i64 0), (.int .i64 0), (.slice none 0 0), (.slice none 0 0), (.slice none 0 0)] 5 16 tZr25_LfD fun h16 => ?_ <;> refine s_sta 16 tAgg25_LdS ?_ <;> refine aL_end (nav ?_) <;> try dsimp only)
                            exact aN_join _ ⟨rfl, rfl, rfl, rfl, rfl, rfl, rfl, rfl, rfl, rfl, rfl, rfl, rfl, rfl, trivial⟩ ⟨rfl, rfl, rfl, rfl, rfl, rfl, rfl, rfl, rfl, rfl, rfl, rfl, rfl, trivial⟩
                          · rintro h16
                            skip
                            refine nav ?_
                            refine aC_mid (fun z : Value × Value => ⟨[(2, padd (sbase h2) 0, .val (padd (sbase h2) 0)), (3, padd (sbase h3) 0, .val (padd (sbase h3) 0)), (7, padd (sbase h7) 0, .val (padd (sbase h7) 0)), (8, padd (sbase h8) 0, .val (padd (sbase h8) 0)), (9, padd (sbase h9) 0, .val (padd (sbase h9) 0)), (10, padd (sbase h10) 0, .val (padd (sbase h10) 0)), (11, padd (sbase h11) 0, .val (padd (sbase h11) 0)), (12, padd (sbase h12) 0, .val (padd (sbase h12) 0)), (13, padd (sbase h13) 0, .val (padd (sbase h13) 0)), (14, padd (sbase h14) 0, .val (padd (sbase h14) 0)), (15, padd (sbase h15) 0, .val (padd (sbase h15) 0)), (16, padd (sbase h16) 0, .val (padd (sbase h16) 0)), (17, padd (sbase z.1) 0, .val (padd (sbase z.1) 0)), (18, padd (sbase z.2) 0, .val (padd (sbase z.2) 0)), (5, padd (sbase h5) 0, .val (padd (sbase h5) 0)), (6, .func (.func 48) #[] #[padd (sbase h5) 0], .fn 48 [.val (padd (sbase h5) 0)])], [(1000, h5, .own 4 1 1 [pBool (limB [e1, e2, e3, e4, e5, e6, e7, e8, e9, e10, e11, e12, e13, e9, e14, e15, e16, e17])]), (2, h2, .own 25 5 1 [pInt a.n, pInt a.syms, pInts a.start, pInts a.fin, pMvs a.moves]), (3, h3, .own 25 5 1 [pInt b.n, pInt b.syms, pInts b.start, pInts b.fin, pMvs b.moves]), (7, h7, .own 25 5 1 [pInt m.n, pInt m.syms, pInts m.start, pInts m.fin, pMvs m.moves]), (8, h8, .own 25 5 1 [pInt u.n, pInt u.syms, pInts u.start, pInts u.fin, pMvs u.moves]), (9, h9, .own 25 5 1 [pInt nt.n, pInt nt.syms, pInts nt.start, pInts nt.fin, pMvs nt.moves]), (10, h10, .own 25 5 1 [pInt bo.n, pInt bo.syms, pInts bo.start, pInts bo.fin, pMvs bo.moves]), (11, h11, .own 25 5 1 [pInt st.n, pInt st.syms, pInts st.start, pInts st.fin, pMvs st.moves]), (12, h12, .own 25 5 1 [pInt tw.n, pInt tw.syms, pInts tw.start, pInts tw.fin, pMvs tw.moves]), (13, h13, .own 25 5 1 [pInt bk.n, pInt bk.syms, pInts bk.start, pInts bk.fin, pMvs bk.moves]), (14, h14, .own 25 5 1 [pInt x.n, pInt x.syms, pInts x.start, pInts x.fin, pMvs x.moves]), (15, h15, .own 25 5 1 [pInt y.n, pInt y.syms, pInts y.start, pInts y.fin, pMvs y.moves]), (16, h16, .own 25 5 1 [pInt ei.n, pInt ei.syms, pInts ei.start, pInts ei.fin, pMvs ei.moves]), (17, z.1, .own 25 5 1 [pInt s.n, pInt s.syms, pInts s.start, pInts s.fin, pMvs s.moves]), (18, z.2, .own 25 5 1 [pInt t.n, pInt t.syms, pInts t.start, pInts t.fin, pMvs t.moves])]⟩) ?_ ?_
                            · (refine aC_draw (fun i => ([16, 17] : List Nat).elem i) [2, 3] (by kernel_rfl) ?_ <;> refine xDT 0 165 rfl q_move ?_ <;> (refine yDT 1 166 rfl (q_ldao 2 tAgg25_LdS) fun v166 hv166 => ?_; cases hv166) <;> (refine yDT 2 167 rfl (q_ldao 3 tAgg25_LdS) fun v167 hv167 => ?_; cases hv167) <;> refine xDT 7 172 rfl q_move ?_ <;> (refine yDT 8 173 rfl (q_ldao 3 tAgg25_LdS) fun v173 hv173 => ?_; cases hv173) <;> (refine yDT 9 174 rfl (q_ldao 2 tAgg25_LdS) fun v174 hv174 => ?_; cases hv174) <;> (refine aD_three 3 14 15 (by kernel_rfl) ?_ ?_ ?_; rotate_right; (focus ((refine aW_run rfl fun w9 M9 N9 DQ back => ?_) <;> refine s_alloc [(.int .i64 0), (.int .i64 0), (.slice none 0 0), (.slice none 0 0), (.slice none 0 0)] 5 18 tZr25_LfD fun h18 => ?_ <;> refine aL_end (back _ (nrm ?_)) <;> (refine aD_two 3 14 (by kernel_rfl) ?_ ?_; rotate_right; (focus ((refine aW_run rfl fun w9 M9 N9 DQ back => ?_) <;> refine s_alloc [(.int .i64 0), (.int .i64 0), (.slice none 0 0), (.slice none 0 0), (.slice none 0 0)] 5 17 tZr25_LfD fun h17 => ?_ <;> refine aL_end (back _ (nrm ?_)) <;> (refine aD_one 3 (by kernel_rfl) ?_) <;> (refine aW_run rfl fun w9 M9 N9 DQ back => ?_) <;> (refine cP 168 (cA Tryz.call37 (c16)) fun va168 vb168 hva168 hvb168 => ?_; cases hvb168) <;> refine aL_end (back _ (nrm ?_)) <;> refine xDT 4 169 rfl q_extract ?_ <;> refine xE 5 170 rfl q_extract ?_ <;> (refine aD_one 6 (by kernel_rfl) ?_) <;> (refine aW_run rfl fun w9 M9 N9 DQ back => ?_) <;> (refine aL_chF [7, 8, 9, 10, 11, 12, 13, 14, 15, 16, 17, 18] 171 (Tryz.call48) (autLaws1_e s e16 _ h5 _) ?_; rintro v171 _ _ ⟨rfl, rfl⟩) <;> refine aL_end (back _ (nrm ?_)) <;> (refine aD_one 10 (by kernel_rfl) ?_) <;> (refine aW_run rfl fun w9 M9 N9 DQ back => ?_) <;> (refine cP 175 (cA Tryz.call37 (c17)) fun va175 vb175 hva175 hvb175 => ?_; cases hvb175) <;> refine aL_end (back _ (nrm ?_)) <;> refine xDT 11 176 rfl q_extract ?_ <;> refine xE 12 177 rfl q_extract ?_ <;> (refine aD_one 13 (by kernel_rfl) ?_) <;> (refine aW_run rfl fun w9 M9 N9 DQ back => ?_) <;> (refine aL_chF [7, 8, 9, 10, 11, 12, 13, 14, 15, 16, 17, 18] 178 (Tryz.call48) (autLaws1_e t e17 _ h5 _) ?_; rintro v178 _ _ ⟨rfl, rfl⟩) <;> refine aL_end (back _ (nrm ?_)))); rotate_right; (focus ((refine aW_run rfl fun w9 M9 N9 DQ back => ?_) <;> (refine cP 168 (cA Tryz.call37 (c16)) fun va168 vb168 hva168 hvb168 => ?_; cases hvb168) <;> refine aL_end (back _ (nrm ?_)) <;> refine xDT 4 169 rfl q_extract ?_ <;> refine xDT 5 170 rfl q_extract ?_ <;> (refine aD_two 6 14 (by kernel_rfl) ?_ ?_; rotate_right; (focus ((refine aW_run rfl fun w9 M9 N9 DQ back => ?_) <;> refine s_alloc [(.int .i64 0), (.int .i64 0), (.slice none 0 0), (.slice none 0 0), (.slice none 0 0)] 5 17 tZr25_LfD fun h17 => ?_ <;> refine aL_end (back _ (nrm ?_)) <;> (refine aD_one 6 (by kernel_rfl) ?_) <;> (refine aW_run rfl fun w9 M9 N9 DQ back => ?_) <;> (refine aL_chF [7, 8, 9, 10, 11, 12, 13, 14, 15, 16, 17, 18] 171 (Tryz.call48) (autLaws1_e s e16 _ h5 _) ?_; rintro v171 _ _ ⟨rfl, rfl⟩) <;> refine aL_end (back _ (nrm ?_)) <;> (refine aD_one 10 (by kernel_rfl) ?_) <;> (refine aW_run rfl fun w9 M9 N9 DQ back => ?_) <;> (refine cP 175 (cA Tryz.call37 (c17)) fun va175 vb175 hva175 hvb175 => ?_; cases hvb175) <;> refine aL_end (back _ (nrm ?_)) <;> refine xDT 11 176 rfl q_extract ?_ <;> refine xE 12 177 rfl q_extract ?_ <;> (refine aD_one 13 (by kernel_rfl) ?_) <;> (refine aW_run rfl fun w9 M9 N9 DQ back => ?_) <;> (refine aL_chF [7, 8, 9, 10, 11, 12, 13, 14, 15, 16, 17, 18] 178 (Tryz.call48) (autLaws1_e t e17 _ h5 _) ?_; rintro v178 _ _ ⟨rfl, rfl⟩) <;> refine aL_end (back _ (nrm ?_)))); rotate_right; (focus ((refine aW_run rfl fun w9 M9 N9 DQ back => ?_) <;> (refine aL_chF [7, 8, 9, 10, 11, 12, 13, 14, 15, 16, 17, 18] 171 (Tryz.call48) (autLaws1_e s e16 _ h5 _) ?_; rintro v171 _ _ ⟨rfl, rfl⟩) <;> refine aL_end (back _ (nrm ?_)) <;> (refine aD_two 10 14 (by kernel_rfl) ?_ ?_; rotate_right; (focus ((refine aW_run rfl fun w9 M9 N9 DQ back => ?_) <;> refine s_alloc [(.int .i64 0), (.int .i64 0), (.slice none 0 0), (.slice none 0 0), (.slice none 0 0)] 5 17 tZr25_LfD fun h17 => ?_ <;> refine aL_end (back _ (nrm ?_)) <;> (refine aD_one 10 (by kernel_rfl) ?_) <;> (refine aW_run rfl fun w9 M9 N9 DQ back => ?_) <;> (refine cP 175 (cA Tryz.call37 (c17)) fun va175 vb175 hva175 hvb175 => ?_; cases hvb175) <;> refine aL_end (back _ (nrm ?_)) <;> refine xDT 11 176 rfl q_extract ?_ <;> refine xE 12 177 rfl q_extract ?_ <;> (refine aD_one 13 (by kernel_rfl) ?_) <;> (refine aW_run rfl fun w9 M9 N9 DQ back => ?_) <;> (refine aL_chF [7, 8, 9, 10, 11, 12, 13, 14, 15, 16, 17, 18] 178 (Tryz.call48) (autLaws1_e t e17 _ h5 _) ?_; rintro v178 _ _ ⟨rfl, rfl⟩) <;> refine aL_end (back _ (nrm ?_)))); rotate_right; (focus ((refine aW_run rfl fun w9 M9 N9 DQ back => ?_) <;> (refine cP 175 (cA Tryz.call37 (c17)) fun va175 vb175 hva175 hvb175 => ?_; cases hvb175) <;> refine aL_end (back _ (nrm ?_)) <;> refine xDT 11 176 rfl q_extract ?_ <;> refine xDT 12 177 rfl q_extract ?_ <;> (refine aD_two 13 14 (by kernel_rfl) ?_ ?_; rotate_right; (focus ((refine aW_run rfl fun w9 M9 N9 DQ back => ?_) <;> refine s_alloc [(.int .i64 0), (.int .i64 0), (.slice none 0 0), (.slice none 0 0), (.slice none 0 0)] 5 17 tZr25_LfD fun h17 => ?_ <;> refine aL_end (back _ (nrm ?_)) <;> (refine aD_one 13 (by kernel_rfl) ?_) <;> (refine aW_run rfl fun w9 M9 N9 DQ back => ?_) <;> (refine aL_chF [7, 8, 9, 10, 11, 12, 13, 14, 15, 16, 17, 18] 178 (Tryz.call48) (autLaws1_e t e17 _ h5 _) ?_; rintro v178 _ _ ⟨rfl, rfl⟩) <;> refine aL_end (back _ (nrm ?_)))); rotate_right; (focus ((refine aW_run rfl fun w9 M9 N9 DQ back => ?_) <;> (refine aL_chF [7, 8, 9, 10, 11, 12, 13, 14, 15, 16, 17, 18] 178 (Tryz.call48) (autLaws1_e t e17 _ h5 _) ?_; rintro v178 _ _ ⟨rfl, rfl⟩) <;> refine aL_end (back _ (nrm ?_)) <;> (refine aD_one 14 (by kernel_rfl) ?_) <;> (refine aW_run rfl fun w9 M9 N9 DQ back => ?_) <;> refine s_alloc [(.int .i64 0), (.int .i64 0), (.slice none 0 0), (.slice none 0 0), (.slice none 0 0)] 5 17 tZr25_LfD fun h17 => ?_ <;> refine aL_end (back _ (nrm ?_)))))))))))))))); rotate_right; (focus ((refine aW_run rfl fun w9 M9 N9 DQ back => ?_) <;> refine s_alloc [(.int .i64 0), (.int .i64 0), (.slice none 0 0), (.slice none 0 0), (.slice none 0 0)] 5 17 tZr25_LfD fun h17 => ?_ <;> refine aL_end (back _ (nrm ?_)) <;> (refine aD_two 3 15 (by kernel_rfl) ?_ ?_; rotate_right; (focus ((refine aW_run rfl fun w9 M9 N9 DQ back => ?_) <;> refine s_alloc [(.int .i64 0), (.int .i64 0), (.slice none 0 0), (.slice none 0 0), (.slice none 0 0)] 5 18 tZr25_LfD fun h18 => ?_ <;> refine aL_end (back _ (nrm ?_)) <;> (refine aD_one 3 (by kernel_rfl) ?_) <;> (refine aW_run rfl fun w9 M9 N9 DQ back => ?_) <;> (refine cP 168 (cA Tryz.call37 (c16)) fun va168 vb168 hva168 hvb168 => ?_; cases hvb168) <;> refine aL_end (back _ (nrm ?_)) <;> refine xDT 4 169 rfl q_extract ?_ <;> refine xE 5 170 rfl q_extract ?_ <;> (refine aD_one 6 (by kernel_rfl) ?_) <;> (refine aW_run rfl fun w9 M9 N9 DQ back => ?_) <;> (refine aL_chF [7, 8, 9, 10, 11, 12, 13, 14, 15, 16, 17, 18] 171 (Tryz.call48) (autLaws1_e s e16 _ h5 _) ?_; rintro v171 _ _ ⟨rfl, rfl⟩) <;> refine aL_end (back _ (nrm ?_)) <;> (refine aD_one 10 (by kernel_rfl) ?_) <;> (refine aW_run rfl fun w9 M9 N9 DQ back => ?_) <;> (refine cP 175 (cA Tryz.call37 (c17)) fun va175 vb175 hva175 hvb175 => ?_; cases hvb175) <;> refine aL_end (back _ (nrm ?_)) <;> refine xDT 11 176 rfl q_extract ?_ <;> refine xE 12 177 rfl q_extract ?_ <;> (refine aD_one 13 (by kernel_rfl) ?_) <;> (refine aW_run rfl fun w9 M9 N9 DQ back => ?_) <;> (refine aL_chF [7, 8, 9, 10, 11, 12, 13, 14, 15, 16, 17, 18] 178 (Tryz.call48) (autLaws1_e t e17 _ h5 _) ?_; rintro v178 _ _ ⟨rfl, rfl⟩) <;> refine aL_end (back _ (nrm ?_)))); rotate_right; (focus ((refine aW_run rfl fun w9 M9 N9 DQ back => ?_) <;> (refine cP 168 (cA Tryz.call37 (c16)) fun va168 vb168 hva168 hvb168 => ?_; cases hvb168) <;> refine aL_end (back _ (nrm ?_)) <;> refine xDT 4 169 rfl q_extract ?_ <;> refine xDT 5 170 rfl q_extract ?_ <;> (refine aD_two 6 15 (by kernel_rfl) ?_ ?_; rotate_right; (focus ((refine aW_run rfl fun w9 M9 N9 DQ back => ?_) <;> refine s_alloc [(.int .i64 0), (.int .i64 0), (.slice none 0 0), (.slice none 0 0), (.slice none 0 0)] 5 18 tZr25_LfD fun h18 => ?_ <;> refine aL_end (back _ (nrm ?_)) <;> (refine aD_one 6 (by kernel_rfl) ?_) <;> (refine aW_run rfl fun w9 M9 N9 DQ back => ?_) <;> (refine aL_chF [7, 8, 9, 10, 11, 12, 13, 14, 15, 16, 17, 18] 171 (Tryz.call48) (autLaws1_e s e16 _ h5 _) ?_; rintro v171 _ _ ⟨rfl, rfl⟩) <;> refine aL_end (back _ (nrm ?_)) <;> (refine aD_one 10 (by kernel_rfl) ?_) <;> (refine aW_run rfl fun w9 M9 N9 DQ back => ?_) <;> (refine cP 175 (cA Tryz.call37 (c17)) fun va175 vb175 hva175 hvb175 => ?_; cases hvb175) <;> refine aL_end (back _ (nrm ?_)) <;> refine xDT 11 176 rfl q_extract ?_ <;> refine xE 12 177 rfl q_extract ?_ <;> (refine aD_one 13 (by kernel_rfl) ?_) <;> (refine aW_run rfl fun w9 M9 N9 DQ back => ?_) <;> (refine aL_chF [7, 8, 9, 10, 11, 12, 13, 14, 15, 16, 17, 18] 178 (Tryz.call48) (autLaws1_e t e17 _ h5 _) ?_; rintro v178 _ _ ⟨rfl, rfl⟩) <;> refine aL_end (back _ (nrm ?_)))); rotate_right; (focus ((refine aW_run rfl fun w9 M9 N9 DQ back => ?_) <;> (refine aL_chF [7, 8, 9, 10, 11, 12, 13, 14, 15, 16, 17, 18] 171 (Tryz.call48) (autLaws1_e s e16 _ h5 _) ?_; rintro v171 _ _ ⟨rfl, rfl⟩) <;> refine aL_end (back _ (nrm ?_)) <;> (refine aD_two 10 15 (by kernel_rfl) ?_ ?_; rotate_right; (focus ((refine aW_run rfl fun w9 M9 N9 DQ back => ?_) <;> refine s_alloc [(.int .i64 0), (.int .i64 0), (.slice none 0 0), (.slice none 0 0), (.slice none 0 0)] 5 18 tZr25_LfD fun h18 => ?_ <;> refine aL_end (back _ (nrm ?_)) <;> (refine aD_one 10 (by kernel_rfl) ?_) <;> (refine aW_run rfl fun w9 M9 N9 DQ back => ?_) <;> (refine cP 175 (cA Tryz.call37 (c17)) fun va175 vb175 hva175 hvb175 => ?_; cases hvb175) <;> refine aL_end (back _ (nrm ?_)) <;> refine xDT 11 176 rfl q_extract ?_ <;> refine xE 12 177 rfl q_extract ?_ <;> (refine aD_one 13 (by kernel_rfl) ?_) <;> (refine aW_run rfl fun w9 M9 N9 DQ back => ?_) <;> (refine aL_chF [7, 8, 9, 10, 11, 12, 13, 14, 15, 16, 17, 18] 178 (Tryz.call48) (autLaws1_e t e17 _ h5 _) ?_; rintro v178 _ _ ⟨rfl, rfl⟩) <;> refine aL_end (back _ (nrm ?_)))); rotate_right; (focus ((refine aW_run rfl fun w9 M9 N9 DQ back => ?_) <;> (refine cP 175 (cA Tryz.call37 (c17)) fun va175 vb175 hva175 hvb175 => ?_; cases hvb175) <;> refine aL_end (back _ (nrm ?_)) <;> refine xDT 11 176 rfl q_extract ?_ <;> refine xDT 12 177 rfl q_extract ?_ <;> (refine aD_two 13 15 (by kernel_rfl) ?_ ?_; rotate_right; (focus ((refine aW_run rfl fun w9 M9 N9 DQ back => ?_) <;> refine s_alloc [(.int .i64 0), (.int .i64 0), (.slice none 0 0), (.slice none 0 0), (.slice none 0 0)] 5 18 tZr25_LfD fun h18 => ?_ <;> refine aL_end (back _ (nrm ?_)) <;> (refine aD_one 13 (by kernel_rfl) ?_) <;> (refine aW_run rfl fun w9 M9 N9 DQ back => ?_) <;> (refine aL_chF [7, 8, 9, 10, 11, 12, 13, 14, 15, 16, 17, 18] 178 (Tryz.call48) (autLaws1_e t e17 _ h5 _) ?_; rintro v178 _ _ ⟨rfl, rfl⟩) <;> refine aL_end (back _ (nrm ?_)))); rotate_right; (focus ((refine aW_run rfl fun w9 M9 N9 DQ back => ?_) <;> (refine aL_chF [7, 8, 9, 10, 11, 12, 13, 14, 15, 16, 17, 18] 178 (Tryz.call48) (autLaws1_e t e17 _ h5 _) ?_; rintro v178 _ _ ⟨rfl, rfl⟩) <;> refine aL_end (back _ (nrm ?_)) <;> (refine aD_one 15 (by kernel_rfl) ?_) <;> (refine aW_run rfl fun w9 M9 N9 DQ back => ?_) <;> refine s_alloc [(.int .i64 0), (.int .i64 0), (.slice none 0 0), (.slice none 0 0), (.slice none 0 0)] 5 18 tZr25_LfD fun h18 => ?_ <;> refine aL_end (back _ (nrm ?_)))))))))))))))); rotate_right; (focus ((refine aW_run rfl fun w9 M9 N9 DQ back => ?_) <;> (refine cP 168 (cA Tryz.call37 (c16)) fun va168 vb168 hva168 hvb168 => ?_; cases hvb168) <;> refine aL_end (back _ (nrm ?_)) <;> refine xDT 4 169 rfl q_extract ?_ <;> refine xDT 5 170 rfl q_extract ?_ <;> (refine aD_three 6 14 15 (by kernel_rfl) ?_ ?_ ?_; rotate_right; (focus ((refine aW_run rfl fun w9 M9 N9 DQ back => ?_) <;> refine s_alloc [(.int .i64 0), (.int .i64 0), (.slice none 0 0), (.slice none 0 0), (.slice none 0 0)] 5 18 tZr25_LfD fun h18 => ?_ <;> refine aL_end (back _ (nrm ?_)) <;> (refine aD_two 6 14 (by kernel_rfl) ?_ ?_; rotate_right; (focus ((refine aW_run rfl fun w9 M9 N9 DQ back => ?_) <;> refine s_alloc [(.int .i64 0), (.int .i64 0), (.slice none 0 0), (.slice none 0 0), (.slice none 0 0)] 5 17 tZr25_LfD fun h17 => ?_ <;> refine aL_end (back _ (nrm ?_)) <;> (refine aD_one 6 (by kernel_rfl) ?_) <;> (refine aW_run rfl fun w9 M9 N9 DQ back => ?_) <;> (refine aL_chF [7, 8, 9, 10, 11, 12, 13, 14, 15, 16, 17, 18] 171 (Tryz.call48) (autLaws1_e s e16 _ h5 _) ?_; rintro v171 _ _ ⟨rfl, rfl⟩) <;> refine aL_end (back _ (nrm ?_)) <;> (refine aD_one 10 (by kernel_rfl) ?_) <;> (refine aW_run rfl fun w9 M9 N9 DQ back => ?_) <;> (refine cP 175 (cA Tryz.call37 (c17)) fun va175 vb175 hva175 hvb175 => ?_; cases hvb175) <;> refine aL_end (back _ (nrm ?_)) <;> refine xDT 11 176 rfl q_extract ?_ <;> refine xE 12 177 rfl q_extract ?_ <;> (refine aD_one 13 (by kernel_rfl) ?_) <;> (refine aW_run rfl fun w9 M9 N9 DQ back => ?_) <;> (refine aL_chF [7, 8, 9, 10, 11, 12, 13, 14, 15, 16, 17, 18] 178 (Tryz.call48) (autLaws1_e t e17 _ h5 _) ?_; rintro v178 _ _ ⟨rfl, rfl⟩) <;> refine aL_end (back _ (nrm ?_)))); rotate_right; (focus ((refine aW_run rfl fun w9 M9 N9 DQ back => ?_) <;> (refine aL_chF [7, 8, 9, 10, 11, 12, 13, 14, 15, 16, 17, 18] 171 (Tryz.call48) (autLaws1_e s e16 _ h5 _) ?_; rintro v171 _ _ ⟨rfl, rfl⟩) <;> refine aL_end (back _ (nrm ?_)) <;> (refine aD_two 10 14 (by kernel_rfl) ?_ ?_; rotate_right; (focus ((refine aW_run rfl fun w9 M9 N9 DQ back => ?_) <;> refine s_alloc [(.int .i64 0), (.int .i64 0), (.slice none 0 0), (.slice none 0 0), (.slice none 0 0)] 5 17 tZr25_LfD fun h17 => ?_ <;> refine aL_end (back _ (nrm ?_)) <;> (refine aD_one 10 (by kernel_rfl) ?_) <;> (refine aW_run rfl fun w9 M9 N9 DQ back => ?_) <;> (refine cP 175 (cA Tryz.call37 (c17)) fun va175 vb175 hva175 hvb175 => ?_; cases hvb175) <;> refine aL_end (back _ (nrm ?_)) <;> refine xDT 11 176 rfl q_extract ?_ <;> refine xE 12 177 rfl q_extract ?_ <;> (refine aD_one 13 (by kernel_rfl) ?_) <;> (refine aW_run rfl fun w9 M9 N9 DQ back => ?_) <;> (refine aL_chF [7, 8, 9, 10, 11, 12, 13, 14, 15, 16, 17, 18] 178 (Tryz.call48) (autLaws1_e t e17 _ h5 _) ?_; rintro v178 _ _ ⟨rfl, rfl⟩) <;> refine aL_end (back _ (nrm ?_)))); rotate_right; (focus ((refine aW_run rfl fun w9 M9 N9 DQ back => ?_) <;> (refine cP 175 (cA Tryz.call37 (c17)) fun va175 vb175 hva175 hvb175 => ?_; cases hvb175) <;> refine aL_end (back _ (nrm ?_)) <;> refine xDT 11 176 rfl q_extract ?_ <;> refine xDT 12 177 rfl q_extract ?_ <;> (refine aD_two 13 14 (by kernel_rfl) ?_ ?_; rotate_right; (focus ((refine aW_run rfl fun w9 M9 N9 DQ back => ?_) <;> refine s_alloc [(.int .i64 0), (.int .i64 0), (.slice none 0 0), (.slice none 0 0), (.slice none 0 0)] 5 17 tZr25_LfD fun h17 => ?_ <;> refine aL_end (back _ (nrm ?_)) <;> (refine aD_one 13 (by kernel_rfl) ?_) <;> (refine aW_run rfl fun w9 M9 N9 DQ back => ?_) <;> (refine aL_chF [7, 8, 9, 10, 11, 12, 13, 14, 15, 16, 17, 18] 178 (Tryz.call48) (autLaws1_e t e17 _ h5 _) ?_; rintro v178 _ _ ⟨rfl, rfl⟩) <;> refine aL_end (back _ (nrm ?_)))); rotate_right; (focus ((refine aW_run rfl fun w9 M9 N9 DQ back => ?_) <;> (refine aL_chF [7, 8, 9, 10, 11, 12, 13, 14, 15, 16, 17, 18] 178 (Tryz.call48) (autLaws1_e t e17 _ h5 _) ?_; rintro v178 _ _ ⟨rfl, rfl⟩) <;> refine aL_end (back _ (nrm ?_)) <;> (refine aD_one 14 (by kernel_rfl) ?_) <;> (refine aW_run rfl fun w9 M9 N9 DQ back => ?_) <;> refine s_alloc [(.int .i64 0), (.int .i64 0), (.slice none 0 0), (.slice none 0 0), (.slice none 0 0)] 5 17 tZr25_LfD fun h17 => ?_ <;> refine aL_end (back _ (nrm ?_))))))))))))); rotate_right; (focus ((refine aW_run rfl fun w9 M9 N9 DQ back => ?_) <;> refine s_alloc [(.int .i64 0), (.int .i64 0), (.slice none 0 0), (.slice none 0 0), (.slice none 0 0)] 5 17 tZr25_LfD fun h17 => ?_ <;> refine aL_end (back _ (nrm ?_)) <;> (refine aD_two 6 15 (by kernel_rfl) ?_ ?_; rotate_right; (focus ((refine aW_run rfl fun w9 M9 N9 DQ back => ?_) <;> refine s_alloc [(.int .i64 0), (.int .i64 0), (.slice none 0 0), (.slice none 0 0), (.slice none 0 0)] 5 18 tZr25_LfD fun h18 => ?_ <;> refine aL_end (back _ (nrm ?_)) <;> (refine aD_one 6 (by kernel_rfl) ?_) <;> (refine aW_run rfl fun w9 M9 N9 DQ back => ?_) <;> (refine aL_chF [7, 8, 9, 10, 11, 12, 13, 14, 15, 16, 17, 18] 171 (Tryz.call48) (autLaws1_e s e16 _ h5 _) ?_; rintro v171 _ _ ⟨rfl, rfl⟩) <;> refine aL_end (back _ (nrm ?_)) <;> (refine aD_one 10 (by kernel_rfl) ?_) <;> (refine aW_run rfl fun w9 M9 N9 DQ back => ?_) <;> (refine cP 175 (cA Tryz.call37 (c17)) fun va175 vb175 hva175 hvb175 => ?_; cases hvb175) <;> refine aL_end (back _ (nrm ?_)) <;> refine xDT 11 176 rfl q_extract ?_ <;> refine xE 12 177 rfl q_extract ?_ <;> (refine aD_one 13 (by kernel_rfl) ?_) <;> (refine aW_run rfl fun w9 M9 N9 DQ back => ?_) <;> (refine aL_chF [7, 8, 9, 10, 11, 12, 13, 14, 15, 16, 17, 18] 178 (Tryz.call48) (autLaws1_e t e17 _ h5 _) ?_; rintro v178 _ _ ⟨rfl, rfl⟩) <;> refine aL_end (back _ (nrm ?_)))); rotate_right; (focus ((refine aW_run rfl fun w9 M9 N9 DQ back => ?_) <;> (refine aL_chF [7, 8, 9, 10, 11, 12, 13, 14, 15, 16, 17, 18] 171 (Tryz.call48) (autLaws1_e s e16 _ h5 _) ?_; rintro v171 _ _ ⟨rfl, rfl⟩) <;> refine aL_end (back _ (nrm ?_)) <;> (refine aD_two 10 15 (by kernel_rfl) ?_ ?_; rotate_right; (focus ((refine aW_run rfl fun w9 M9 N9 DQ back => ?_) <;> refine s_alloc [(.int .i64 0), (.int .i64 0), (.slice none 0 0), (.slice none 0 0), (.slice none 0 0)] 5 18 tZr25_LfD fun h18 => ?_ <;> refine aL_end (back _ (nrm ?_)) <;> (refine aD_one 10 (by kernel_rfl) ?_) <;> (refine aW_run rfl fun w9 M9 N9 DQ back => ?_) <;> (refine cP 175 (cA Tryz.call37 (c17)) fun va175 vb175 hva175 hvb175 => ?_; cases hvb175) <;> refine aL_end (back _ (nrm ?_)) <;> refine xDT 11 176 rfl q_extract ?_ <;> refine xE 12 177 rfl q_extract ?_ <;> (refine aD_one 13 (by kernel_rfl) ?_) <;> (refine aW_run rfl fun w9 M9 N9 DQ back => ?_) <;> (refine aL_chF [7, 8, 9, 10, 11, 12, 13, 14, 15, 16, 17, 18] 178 (Tryz.call48) (autLaws1_e t e17 _ h5 _) ?_; rintro v178 _ _ ⟨rfl, rfl⟩) <;> refine aL_end (back _ (nrm ?_)))); rotate_right; (focus ((refine aW_run rfl fun w9 M9 N9 DQ back => ?_) <;> (refine cP 175 (cA Tryz.call37 (c17)) fun va175 vb175 hva175 hvb175 => ?_; cases hvb175) <;> refine aL_end (back _ (nrm ?_)) <;> refine xDT 11 176 rfl q_extract ?_ <;> refine xDT 12 177 rfl q_extract ?_ <;> (refine aD_two 13 15 (by kernel_rfl) ?_ ?_; rotate_right; (focus ((refine aW_run rfl fun w9 M9 N9 DQ back => ?_) <;> refine s_alloc [(.int .i64 0), (.int .i64 0), (.slice none 0 0), (.slice none 0 0), (.slice none 0 0)] 5 18 tZr25_LfD fun h18 => ?_ <;> refine aL_end (back _ (nrm ?_)) <;> (refine aD_one 13 (by kernel_rfl) ?_) <;> (refine aW_run rfl fun w9 M9 N9 DQ back => ?_) <;> (refine aL_chF [7, 8, 9, 10, 11, 12, 13, 14, 15, 16, 17, 18] 178 (Tryz.call48) (autLaws1_e t e17 _ h5 _) ?_; rintro v178 _ _ ⟨rfl, rfl⟩) <;> refine aL_end (back _ (nrm ?_)))); rotate_right; (focus ((refine aW_run rfl fun w9 M9 N9 DQ back => ?_) <;> (refine aL_chF [7, 8, 9, 10, 11, 12, 13, 14, 15, 16, 17, 18] 178 (Tryz.call48) (autLaws1_e t e17 _ h5 _) ?_; rintro v178 _ _ ⟨rfl, rfl⟩) <;> refine aL_end (back _ (nrm ?_)) <;> (refine aD_one 15 (by kernel_rfl) ?_) <;> (refine aW_run rfl fun w9 M9 N9 DQ back => ?_) <;> refine s_alloc [(.int .i64 0), (.int .i64 0), (.slice none 0 0), (.slice none 0 0), (.slice none 0 0)] 5 18 tZr25_LfD fun h18 => ?_ <;> refine aL_end (back _ (nrm ?_))))))))))))); rotate_right; (focus ((refine aW_run rfl fun w9 M9 N9 DQ back => ?_) <;> (refine aL_chF [7, 8, 9, 10, 11, 12, 13, 14, 15, 16, 17, 18] 171 (Tryz.call48) (autLaws1_e s e16 _ h5 _) ?_; rintro v171 _ _ ⟨rfl, rfl⟩) <;> refine aL_end (back _ (nrm ?_)) <;> (refine aD_three 10 14 15 (by kernel_rfl) ?_ ?_ ?_; rotate_right; (focus ((refine aW_run rfl fun w9 M9 N9 DQ back => ?_) <;> refine s_alloc [(.int .i64 0), (.int .i64 0), (.slice none 0 0), (.slice none 0 0), (.slice none 0 0)] 5 18 tZr25_LfD fun h18 => ?_ <;> refine aL_end (back _ (nrm ?_)) <;> (refine aD_two 10 14 (by kernel_rfl) ?_ ?_; rotate_right; (focus ((refine aW_run rfl fun w9 M9 N9 DQ back => ?_) <;> refine s_alloc [(.int .i64 0), (.int .i64 0), (.slice none 0 0), (.slice none 0 0), (.slice none 0 0)] 5 17 tZr25_LfD fun h17 => ?_ <;> refine aL_end (back _ (nrm ?_)) <;> (refine aD_one 10 (by kernel_rfl) ?_) <;> (refine aW_run rfl fun w9 M9 N9 DQ back => ?_) <;> (refine cP 175 (cA Tryz.call37 (c17)) fun va175 vb175 hva175 hvb175 => ?_; cases hvb175) <;> refine aL_end (back _ (nrm ?_)) <;> refine xDT 11 176 rfl q_extract ?_ <;> refine xE 12 177 rfl q_extract ?_ <;> (refine aD_one 13 (by kernel_rfl) ?_) <;> (refine aW_run rfl fun w9 M9 N9 DQ back => ?_) <;> (refine aL_chF [7, 8, 9, 10, 11, 12, 13, 14, 15, 16, 17, 18] 178 (Tryz.call48) (autLaws1_e t e17 _ h5 _) ?_; rintro v178 _ _ ⟨rfl, rfl⟩) <;> refine aL_end (back _ (nrm ?_)))); rotate_right; (focus ((refine aW_run rfl fun w9 M9 N9 DQ back => ?_) <;> (refine cP 175 (cA Tryz.call37 (c17)) fun va175 vb175 hva175 hvb175 => ?_; cases hvb175) <;> refine aL_end (back _ (nrm ?_)) <;> refine xDT 11 176 rfl q_extract ?_ <;> refine xDT 12 177 rfl q_extract ?_ <;> (refine aD_two 13 14 (by kernel_rfl) ?_ ?_; rotate_right; (focus ((refine aW_run rfl fun w9 M9 N9 DQ back => ?_) <;> refine s_alloc [(.int .i64 0), (.int .i64 0), (.slice none 0 0), (.slice none 0 0), (.slice none 0 0)] 5 17 tZr25_LfD fun h17 => ?_ <;> refine aL_end (back _ (nrm ?_)) <;> (refine aD_one 13 (by kernel_rfl) ?_) <;> (refine aW_run rfl fun w9 M9 N9 DQ back => ?_) <;> (refine aL_chF [7, 8, 9, 10, 11, 12, 13, 14, 15, 16, 17, 18] 178 (Tryz.call48) (autLaws1_e t e17 _ h5 _) ?_; rintro v178 _ _ ⟨rfl, rfl⟩) <;> refine aL_end (back _ (nrm ?_)))); rotate_right; (focus ((refine aW_run rfl fun w9 M9 N9 DQ back => ?_) <;> (refine aL_chF [7, 8, 9, 10, 11, 12, 13, 14, 15, 16, 17, 18] 178 (Tryz.call48) (autLaws1_e t e17 _ h5 _) ?_; rintro v178 _ _ ⟨rfl, rfl⟩) <;> refine aL_end (back _ (nrm ?_)) <;> (refine aD_one 14 (by kernel_rfl) ?_) <;> (refine aW_run rfl fun w9 M9 N9 DQ back => ?_) <;> refine s_alloc [(.int .i64 0), (.int .i64 0), (.slice none 0 0), (.slice none 0 0), (.slice none 0 0)] 5 17 tZr25_LfD fun h17 => ?_ <;> refine aL_end (back _ (nrm ?_)))))))))); rotate_right; (focus ((refine aW_run rfl fun w9 M9 N9 DQ back => ?_) <;> refine s_alloc [(.int .i64 0), (.int .i64 0), (.slice none 0 0), (.slice none 0 0), (.slice none 0 0)] 5 17 tZr25_LfD fun h17 => ?_ <;> refine aL_end (back _ (nrm ?_)) <;> (refine aD_two 10 15 (by kernel_rfl) ?_ ?_; rotate_right; (focus ((refine aW_run rfl fun w9 M9 N9 DQ back => ?_) <;> refine s_alloc [(.int .i64 0), (.int .i64 0), (.slice none 0 0), (.slice none 0 0), (.slice none 0 0)] 5 18 tZr25_LfD fun h18 => ?_ <;> refine aL_end (back _ (nrm ?_)) <;> (refine aD_one 10 (by kernel_rfl) ?_) <;> (refine aW_run rfl fun w9 M9 N9 DQ back => ?_) <;> (refine cP 175 (cA Tryz.call37 (c17)) fun va175 vb175 hva175 hvb175 => ?_; cases hvb175) <;> refine aL_end (back _ (nrm ?_)) <;> refine xDT 11 176 rfl q_extract ?_ <;> refine xE 12 177 rfl q_extract ?_ <;> (refine aD_one 13 (by kernel_rfl) ?_) <;> (refine aW_run rfl fun w9 M9 N9 DQ back => ?_) <;> (refine aL_chF [7, 8, 9, 10, 11, 12, 13, 14, 15, 16, 17, 18] 178 (Tryz.call48) (autLaws1_e t e17 _ h5 _) ?_; rintro v178 _ _ ⟨rfl, rfl⟩) <;> refine aL_end (back _ (nrm ?_)))); rotate_right; (focus ((refine aW_run rfl fun w9 M9 N9 DQ back => ?_) <;> (refine cP 175 (cA Tryz.call37 (c17)) fun va175 vb175 hva175 hvb175 => ?_; cases hvb175) <;> refine aL_end (back _ (nrm ?_)) <;> refine xDT 11 176 rfl q_extract ?_ <;> refine xDT 12 177 rfl q_extract ?_ <;> (refine aD_two 13 15 (by kernel_rfl) ?_ ?_; rotate_right; (focus ((refine aW_run rfl fun w9 M9 N9 DQ back => ?_) <;> refine s_alloc [(.int .i64 0), (.int .i64 0), (.slice none 0 0), (.slice none 0 0), (.slice none 0 0)] 5 18 tZr25_LfD fun h18 => ?_ <;> refine aL_end (back _ (nrm ?_)) <;> (refine aD_one 13 (by kernel_rfl) ?_) <;> (refine aW_run rfl fun w9 M9 N9 DQ back => ?_) <;> (refine aL_chF [7, 8, 9, 10, 11, 12, 13, 14, 15, 16, 17, 18] 178 (Tryz.call48) (autLaws1_e t e17 _ h5 _) ?_; rintro v178 _ _ ⟨rfl, rfl⟩) <;> refine aL_end (back _ (nrm ?_)))); rotate_right; (focus ((refine aW_run rfl fun w9 M9 N9 DQ back => ?_) <;> (refine aL_chF [7, 8, 9, 10, 11, 12, 13, 14, 15, 16, 17, 18] 178 (Tryz.call48) (autLaws1_e t e17 _ h5 _) ?_; rintro v178 _ _ ⟨rfl, rfl⟩) <;> refine aL_end (back _ (nrm ?_)) <;> (refine aD_one 15 (by kernel_rfl) ?_) <;> (refine aW_run rfl fun w9 M9 N9 DQ back => ?_) <;> refine s_alloc [(.int .i64 0), (.int .i64 0), (.slice none 0 0), (.slice none 0 0), (.slice none 0 0)] 5 18 tZr25_LfD fun h18 => ?_ <;> refine aL_end (back _ (nrm ?_)))))))))); rotate_right; (focus ((refine aW_run rfl fun w9 M9 N9 DQ back => ?_) <;> (refine cP 175 (cA Tryz.call37 (c17)) fun va175 vb175 hva175 hvb175 => ?_; cases hvb175) <;> refine aL_end (back _ (nrm ?_)) <;> refine xDT 11 176 rfl q_extract ?_ <;> refine xDT 12 177 rfl q_extract ?_ <;> (refine aD_three 13 14 15 (by kernel_rfl) ?_ ?_ ?_; rotate_right; (focus ((refine aW_run rfl fun w9 M9 N9 DQ back => ?_) <;> refine s_alloc [(.int .i64 0), (.int .i64 0), (.slice none 0 0), (.slice none 0 0), (.slice none 0 0)] 5 18 tZr25_LfD fun h18 => ?_ <;> refine aL_end (back _ (nrm ?_)) <;> (refine aD_two 13 14 (by kernel_rfl) ?_ ?_; rotate_right; (focus ((refine aW_run rfl fun w9 M9 N9 DQ back => ?_) <;> refine s_alloc [(.int .i64 0), (.int .i64 0), (.slice none 0 0), (.slice none 0 0), (.slice none 0 0)] 5 17 tZr25_LfD fun h17 => ?_ <;> refine aL_end (back _ (nrm ?_)) <;> (refine aD_one 13 (by kernel_rfl) ?_) <;> (refine aW_run rfl fun w9 M9 N9 DQ back => ?_) <;> (refine aL_chF [7, 8, 9, 10, 11, 12, 13, 14, 15, 16, 17, 18] 178 (Tryz.call48) (autLaws1_e t e17 _ h5 _) ?_; rintro v178 _ _ ⟨rfl, rfl⟩) <;> refine aL_end (back _ (nrm ?_)))); rotate_right; (focus ((refine aW_run rfl fun w9 M9 N9 DQ back => ?_) <;> (refine aL_chF [7, 8, 9, 10, 11, 12, 13, 14, 15, 16, 17, 18] 178 (Tryz.call48) (autLaws1_e t e17 _ h5 _) ?_; rintro v178 _ _ ⟨rfl, rfl⟩) <;> refine aL_end (back _ (nrm ?_)) <;> (refine aD_one 14 (by kernel_rfl) ?_) <;> (refine aW_run rfl fun w9 M9 N9 DQ back => ?_) <;> refine s_alloc [(.int .i64 0), (.int .i64 0), (.slice none 0 0), (.slice none 0 0), (.slice none 0 0)] 5 17 tZr25_LfD fun h17 => ?_ <;> refine aL_end (back _ (nrm ?_))))))); rotate_right; (focus ((refine aW_run rfl fun w9 M9 N9 DQ back => ?_) <;> refine s_alloc [(.int .i64 0), (.int .i64 0), (.slice none 0 0), (.slice none 0 0), (.slice none 0 0)] 5 17 tZr25_LfD fun h17 => ?_ <;> refine aL_end (back _ (nrm ?_)) <;> (refine aD_two 13 15 (by kernel_rfl) ?_ ?_; rotate_right; (focus ((refine aW_run rfl fun w9 M9 N9 DQ back => ?_) <;> refine s_alloc [(.int .i64 0), (.int .i64 0), (.slice none 0 0), (.slice none 0 0), (.slice none 0 0)] 5 18 tZr25_LfD fun h18 => ?_ <;> refine aL_end (back _ (nrm ?_)) <;> (refine aD_one 13 (by kernel_rfl) ?_) <;> (refine aW_run rfl fun w9 M9 N9 DQ back => ?_) <;> (refine aL_chF [7, 8, 9, 10, 11, 12, 13, 14, 15, 16, 17, 18] 178 (Tryz.call48) (autLaws1_e t e17 _ h5 _) ?_; rintro v178 _ _ ⟨rfl, rfl⟩) <;> refine aL_end (back _ (nrm ?_)))); rotate_right; (focus ((refine aW_run rfl fun w9 M9 N9 DQ back => ?_) <;> (refine aL_chF [7, 8, 9, 10, 11, 12, 13, 14, 15, 16, 17, 18] 178 (Tryz.call48) (autLaws1_e t e17 _ h5 _) ?_; rintro v178 _ _ ⟨rfl, rfl⟩) <;> refine aL_end (back _ (nrm ?_)) <;> (refine aD_one 15 (by kernel_rfl) ?_) <;> (refine aW_run rfl fun w9 M9 N9 DQ back => ?_) <;> refine s_alloc [(.int .i64 0), (.int .i64 0), (.slice none 0 0), (.slice none 0 0), (.slice none 0 0)] 5 18 tZr25_LfD fun h18 => ?_ <;> refine aL_end (back _ (nrm ?_))))))); rotate_right; (focus ((refine aW_run rfl fun w9 M9 N9 DQ back => ?_) <;> (refine aL_chF [7, 8, 9, 10, 11, 12, 13, 14, 15, 16, 17, 18] 178 (Tryz.call48) (autLaws1_e t e17 _ h5 _) ?_; rintro v178 _ _ ⟨rfl, rfl⟩) <;> refine aL_end (back _ (nrm ?_)) <;> (refine aD_two 14 15 (by kernel_rfl) ?_ ?_; rotate_right; (focus ((refine aW_run rfl fun w9 M9 N9 DQ back => ?_) <;> refine s_alloc [(.int .i64 0), (.int .i64 0), (.slice none 0 0), (.slice none 0 0), (.slice none 0 0)] 5 18 tZr25_LfD fun h18 => ?_ <;> refine aL_end (back _ (nrm ?_)) <;> (refine aD_one 14 (by kernel_rfl) ?_) <;> (refine aW_run rfl fun w9 M9 N9 DQ back => ?_) <;> refine s_alloc [(.int .i64 0), (.int .i64 0), (.slice none 0 0), (.slice none 0 0), (.slice none 0 0)] 5 17 tZr25_LfD fun h17 => ?_ <;> refine aL_end (back _ (nrm ?_)))); rotate_right; (focus ((refine aW_run rfl fun w9 M9 N9 DQ back => ?_) <;> refine s_alloc [(.int .i64 0), (.int .i64 0), (.slice none 0 0), (.slice none 0 0), (.slice none 0 0)] 5 17 tZr25_LfD fun h17 => ?_ <;> refine aL_end (back _ (nrm ?_)) <;> (refine aD_one 15 (by kernel_rfl) ?_) <;> (refine aW_run rfl fun w9 M9 N9 DQ back => ?_) <;> refine s_alloc [(.int .i64 0), (.int .i64 0), (.slice none 0 0), (.slice none 0 0), (.slice none 0 0)] 5 18 tZr25_LfD fun h18 => ?_ <;> refine aL_end (back _ (nrm ?_))))))))))))))))) <;> (refine aD_one 16 (by kernel_rfl) ?_) <;> (refine aW_thenZ rfl rfl fun DQ back => ?_) <;> refine s_sta 17 tAgg25_LdS ?_ <;> refine aL_end (back _ ?_) <;> (refine aDZ_one 17 (by kernel_rfl) rfl rfl fun DQ back => ?_) <;> refine s_sta 18 tAgg25_LdS ?_ <;> refine aL_end (back _ ?_) <;> refine aDZ_end (by kernel_rfl) (nav ?_) <;> try dsimp only) <;> (
                               exact aN_join (_, _) ⟨rfl, rfl, rfl, rfl, rfl, rfl, rfl, rfl, rfl, rfl, rfl, rfl, rfl, rfl, rfl, rfl, trivial⟩ ⟨rfl, rfl, rfl, rfl, rfl, rfl, rfl, rfl, rfl, rfl, rfl, rfl, rfl, rfl, rfl, trivial⟩)
                            · rintro ⟨h17, h18⟩
                              skip
                              refine nav ?_
                              (refine aC_region ?_ <;> (refine yL 179 (q_ldo 1000 tNa4_LdJ) fun v179 hv179 => ?_; cases hv179) <;> refine aL_end (nav ?_) <;> try dsimp only)
                              (first | refine cCd ?_ ?_ | refine cC ?_ ?_) <;> intro hb179
                              · first
                                | exact Bool.noConfusion hb179
                                | (
                                 refine nav ?_
                                 (refine aC_region ?_ <;> refine xL 4 q_assign ?_ <;> refine aL_end (nav ?_) <;> try dsimp only)
                                 exact ret_shr (Tryz.results11) rfl rfl)
                              · first
                                | exact Bool.noConfusion hb179
                                | (
                                 have hne := limB_no (es := [e1, e2, e3, e4, e5, e6, e7, e8, e9, e10, e11, e12, e13, e9, e14, e15, e16, e17]) (by simpa using hb179)
                                 obtain ⟨q1, q2, q3, q4, q5, q6⟩ := hfin hne
                                 subst q1 q2 q3 q4 q5 q6
                                 refine nav ?_
                                 (refine aC_region ?_ <;> (refine yL 180 (q_ldao 9 tAgg25_LdS) fun v180 hv180 => ?_; cases hv180) <;> (refine yL 181 (q_ldao 10 tAgg25_LdS) fun v181 hv181 => ?_; cases hv181) <;> (refine cS 182 (cA Tryz.call20 (r07Same_self _ l1)) fun v182 hv182 => ?_; cases hv182) <;> refine xL 183 q_move ?_ <;> (refine yL 184 (q_ldao 11 tAgg25_LdS) fun v184 hv184 => ?_; cases hv184) <;> (refine yL 185 (q_ldao 12 tAgg25_LdS) fun v185 hv185 => ?_; cases hv185) <;> (refine cS 186 (cA Tryz.call20 (r07Same_self _ l2)) fun v186 hv186 => ?_; cases hv186) <;> refine xL 187 q_pick ?_ <;> refine xL 188 q_move ?_ <;> (refine yL 189 (q_ldao 13 tAgg25_LdS) fun v189 hv189 => ?_; cases hv189) <;> (refine yL 190 (q_ldao 7 tAgg25_LdS) fun v190 hv190 => ?_; cases hv190) <;> (refine cS 191 (cA Tryz.call20 (r07Same_self _ l3)) fun v191 hv191 => ?_; cases hv191) <;> refine xL 192 q_pick ?_ <;> refine xL 193 q_move ?_ <;> (refine yL 194 (q_ldao 14 tAgg25_LdS) fun v194 hv194 => ?_; cases hv194) <;> (refine yL 195 (q_ldao 15 tAgg25_LdS) fun v195 hv195 => ?_; cases hv195) <;> (refine cS 196 (cA Tryz.call20 (r07Same_self _ l4)) fun v196 hv196 => ?_; cases hv196) <;> refine xL 197 q_pick ?_ <;> refine xL 198 q_move ?_ <;> (refine yL 199 (q_ldao 16 tAgg25_LdS) fun v199 hv199 => ?_; cases hv199) <;> (refine yL 200 (q_ldao 8 tAgg25_LdS) fun v200 hv200 => ?_; cases hv200) <;> (refine cS 201 (cA Tryz.call20 (r07Same_self _ l5)) fun v201 hv201 => ?_; cases hv201) <;> refine xL 202 q_pick ?_ <;> refine xL 203 q_move ?_ <;> (refine yL 204 (q_ldao 17 tAgg25_LdS) fun v204 hv204 => ?_; cases hv204) <;> (refine yL 205 (q_ldao 18 tAgg25_LdS) fun v205 hv205 => ?_; cases hv205) <;> (refine cS 206 (cA Tryz.call20 (r07Same_self _ l6)) fun v206 hv206 => ?_; cases hv206) <;> refine xL 207 q_pick ?_ <;> refine xL 4 q_assign ?_ <;> refine aL_end (nav ?_) <;> try dsimp only) <;> (
                                  exact ret_shr (Tryz.results11) rfl rfl)))))
theorem autLaws_e (a b : Aut) (_ : fitA a) (_ : fitA b) : AF Tryz.prog 11 [pAut a, pAut b] (· = pBool true) :=
 autLaws_c a b _ _ _ _ _ _ _ _ _ _ _ _ _ _ _ _ _ _ _ _ _ _ _ _ _ _ _ _ _ _ _ _ _ _ (comp_ml _) (starL_ml _) (min_ml _) (revL_ml _) (unionL_ml _ _) (shufL_ml _ _)
  (resW_R (aMinimalW_e a)) (resW_R (aUnion_e a b)) (resW_R (aComplement_e _)) (resW_R (aComplement_e a)) (resW_R (aComplement_e b)) (resW_R (aProductW_e _ _ 1)) (resW_R (aStar_e a)) (resW_R (aStar_e _)) (resW_R (aReverse_e a)) (resW_R (aReverse_e _)) (resW_R (aConcat_e a b)) (resW_R (aReverse_e _)) (resW_R (aReverse_e b)) (resW_R (aConcat_e _ _)) (resW_R (aProductW_e a b 2)) (resW_R (aShuffle_e a b)) (resW_R (aShuffle_e b a))
  fun ha hb hs hl => laws_hold ha hb hs rfl rfl rfl rfl rfl rfl rfl rfl rfl rfl rfl rfl rfl rfl rfl rfl rfl fun z hz => hl (errR z) (List.mem_map_of_mem (f := errR) hz)
end Go.Proofs.YtgigclnaicbiaaaGreatDoor
