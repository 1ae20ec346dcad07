/-
  Walks: automata: Shuffle.
  Walks: the reference's automata: Shuffle.
  Walks: words, moves, automata are compared; the law's bounds (layer 7).
  Plain laws: the words of an automaton, in a form that is evaluated. No program in sight.
  Plain laws: the chapter's automaton is evaluated. No program in sight.
  Walks: automata are compared; the law's bounds; the chapter's automaton (layer 7).
  Plain laws: the chapter's automaton, its star, what they are compared with, evaluated. No program in sight.
  Walks: awake (layer 7).
  The engine, last part: arguments of whatever shape, as they came in, read as plain data; and the frame of a law's row. No program in sight.
  The engine: a struct of five fields read as an argument. No program in sight.
  How the arguments of the laws read; what is handed back, as one automaton and one number; the law on Minimal and Complement (layer 7).
  The law AutomatonShuffles: Shuffle returns the minimal automaton of the reference, or its error, whatever the automata.
-/
import Derived.WalkKit
import Derived.ProofKit
import Derived.OpenShut
import Derived.ShutString
import Derived.ChangeOld
import Derived.Below
import Derived.Carry
import Derived.Deep.Slices
import Derived.Test.YtgigclnaicbiaaaGreatDoorPk06
import Derived.Test.YtgigclnaicbiaaaGreatDoorPk05
import Derived.Test.YtgigclnaicbiaaaGreatDoorPk03
import Derived.Test.YtgigclnaicbiaaaGreatDoorPk04
import Derived.Test.YtgigclnaicbiaaaGreatDoorPk02
namespace Go.Proofs.YtgigclnaicbiaaaGreatDoor
open Go.RowKit Go.Cb Go.En
set_option linter.all false
set_option maxRecDepth 100000
theorem mul_bd {x y X Y : Int} (hx : 0 ≤ x ∧ x ≤ X) (hy : 0 ≤ y ∧ y ≤ Y) : 0 ≤ x * y ∧ x * y ≤ X * Y := ⟨Int.mul_nonneg hx.1 hy.1, Int.mul_le_mul hx.2 hy.2 hy.1 (by omega)⟩
def shLk (m : Int) (x : Mv) (j : Nat) : List Mv := (List.range j).map fun j => ⟨x.src * m + (j : Nat), x.dst * m + (j : Nat), x.sym⟩
theorem shLk_snoc (m : Int) (x : Mv) (j : Nat) : shLk m x (j + 1) = shLk m x j ++ [⟨x.src * m + (j : Nat), x.dst * m + (j : Nat), x.sym⟩] := by unfold shLk; rw [List.range_succ, List.map_append]; rfl
def shRk (m : Int) (x : Mv) (i : Nat) : List Mv := (List.range i).map fun i => ⟨(i : Nat) * m + x.src, (i : Nat) * m + x.dst, x.sym⟩
theorem shRk_snoc (m : Int) (x : Mv) (i : Nat) : shRk m x (i + 1) = shRk m x i ++ [⟨(i : Nat) * m + x.src, (i : Nat) * m + x.dst, x.sym⟩] := by unfold shRk; rw [List.range_succ, List.map_append]; rfl
def smA (a b : Aut) (k : Nat) : List Mv := (a.moves.take k).flatMap (shL b.n)
def smB (a b : Aut) (k : Nat) : List Mv := a.moves.flatMap (shL b.n) ++ (b.moves.take k).flatMap (shR a.n b.n)
theorem smA_snoc {a b : Aut} {k : Nat} {x : Mv} (h : a.moves[k]? = some x) : smA a b (k + 1) = smA a b k ++ shLk b.n x b.n.toNat := by unfold smA; rw [take_snoc h, List.flatMap_append, List.flatMap_singleton]; rfl
theorem smB_snoc {a b : Aut} {k : Nat} {x : Mv} (h : b.moves[k]? = some x) : smB a b (k + 1) = smB a b k ++ shRk b.n x a.n.toNat := by unfold smB; rw [take_snoc h, List.flatMap_append, List.flatMap_singleton, List.append_assoc]; rfl
theorem smA_all {a b : Aut} {k : Nat} (h : a.moves.length ≤ k) : smA a b k = smB a b 0 := by unfold smA smB; rw [List.take_of_length_le h]; exact (List.append_nil _).symm
theorem smB_all {a b : Aut} {k : Nat} (h : b.moves.length ≤ k) : smB a b k = (shufA a b).moves := by unfold smB; rw [List.take_of_length_le h]; rfl
theorem shuf_len (a b : Aut) : (shufA a b).moves.length = a.moves.length * b.n.toNat + b.moves.length * a.n.toNat := by
 show (a.moves.flatMap (shL b.n) ++ b.moves.flatMap (shR a.n b.n)).length = _
 rw [List.length_append, flat_len (shL_len b.n), flat_len (shR_len a.n b.n)]
theorem smA_part {a b : Aut} {k j : Nat} (x : Mv) (hk : k < a.moves.length) (hj : j ≤ b.n.toNat) : (smA a b k ++ shLk b.n x j).length ≤ (shufA a b).moves.length := by
 rw [shuf_len]
 unfold smA shLk
 rw [List.length_append, flat_len (shL_len b.n), List.length_take, List.length_map, List.length_range, Nat.min_eq_left (Nat.le_of_lt hk)]
 have h1 : (k + 1) * b.n.toNat ≤ a.moves.length * b.n.toNat := Nat.mul_le_mul_right _ hk
 rw [Nat.succ_mul] at h1
 omega
theorem smB_part {a b : Aut} {k i : Nat} (x : Mv) (hk : k < b.moves.length) (hi : i ≤ a.n.toNat) : (smB a b k ++ shRk b.n x i).length ≤ (shufA a b).moves.length := by
 rw [shuf_len]
 unfold smB shRk
 rw [List.length_append, List.length_append, flat_len (shL_len b.n), flat_len (shR_len a.n b.n), List.length_take, List.length_map, List.length_range, Nat.min_eq_left (Nat.le_of_lt hk)]
 have h1 : (k + 1) * a.n.toNat ≤ b.moves.length * a.n.toNat := Nat.mul_le_mul_right _ hk
 rw [Nat.succ_mul] at h1
 omega
theorem shI_snoc {m : Int} {l k : List Int} {i : Nat} {x : Int} (h : l[i]? = some x) : shI m (l.take (i + 1)) k = shI m (l.take i) k ++ addI (x * m) k := by unfold shI; rw [take_snoc h, List.flatMap_append, List.flatMap_singleton]
theorem shI_len (m : Int) (l k : List Int) : (shI m l k).length = l.length * k.length := flat_len (fun x => addI_len _ _) l
theorem aShuffle_bad (a b : Aut) (e : Int) (he : ¬ e = 0) (hf : AF Tryz.prog 70 [pAut a, pAut b] (· = pInt e)) : AF Tryz.prog 37 [pAut a, pAut b] (· = .tup [rawZ, pInt e]) := by
 refine AF.of_body 162 Tryz.func37 rfl Tryz.ntmps37 (Nat.le_of_ble_eq_true rfl) ?_
 intro w0 M0 vs hl hv
 obtain ⟨v0, v1, rfl⟩ := len2 hl
 clear hl hv
 refine nav ?_
 (refine aC_region ?_ <;> refine s_boxa 2 5 fun h2 => ?_ <;> refine s_boxa 3 5 fun h3 => ?_ <;> refine s_alloc [(.int .i64 0), (.int .i64 0), (.slice none 0 0), (.slice none 0 0), (.slice none 0 0)] 5 4 tZr25_LfD fun h4 => ?_ <;> refine xL 5 q_assign ?_ <;> refine aL_end (nav ?_) <;> try dsimp only)
 (refine aC_region ?_ <;> (refine yL 20 (q_ldao 2 tAgg25_LdS) fun v20 hv20 => ?_; cases hv20) <;> (refine yL 21 (q_ldao 3 tAgg25_LdS) fun v21 hv21 => ?_; cases hv21) <;> (refine cS 22 (cA Tryz.call70 (hf)) fun v22 hv22 => ?_; cases hv22) <;> refine xL 6 q_assign ?_ <;> refine aL_end (nav ?_) <;> try dsimp only)
 (refine aC_region ?_ <;> refine xL 23 q_move ?_ <;> refine xL 24 q_neq ?_ <;> refine aL_end (nav ?_) <;> try dsimp only)
 (first | refine cCd ?_ ?_ | refine cC ?_ ?_) <;> intro hb24
 · refine nav ?_
   (refine aC_region ?_ <;> refine xL 25 (q_build tSt25_LfD) ?_ <;> refine xL 26 q_move ?_ <;> refine s_sta 4 tAgg25_LdS ?_ <;> refine xL 5 q_assign ?_ <;> refine aL_end (nav ?_) <;> try dsimp only)
   exact ret_cs (k := 5) 4 (by kernel_rfl) (Tryz.results37) rfl rfl rfl (Nat.le_of_ble_eq_true rfl) (by decide) rfl rfl
 · exact absurd (by simpa using hb24) he
set_option maxHeartbeats 8000000 in
theorem aShuffle_g (a b : Aut) (hf0 : fitX a b = 0) {p0 p1 p2 p3 p4 : PV} {E : Int} (r5 : R5 p0 p1 p2 p3 p4) (hr : (shufA a b).moves.length ≤ 40000 → AF Tryz.prog 83 [pAut (mkA (shufA a b))] (· = .tup [.agg [p0, p1, p2, p3, p4], pInt E])) : AF Tryz.prog 37 [pAut a, pAut b] (· = if 2000 < a.n * b.n ∨ 40000 < (a.moves.length : Int) * b.n + (b.moves.length : Int) * a.n then .tup [rawZ, pInt 13] else .tup [.agg [p0, p1, p2, p3, p4], pInt E]) := by
 obtain ⟨o0, o1, o2, o3, o4⟩ := r5.o
 obtain ⟨ha, hb, hs⟩ := fit_vok hf0
 have hf := aFit_e a b
 rw [hf0] at hf
 have hn0 := ha.n0
 have hn1 := ha.n1
 have m0 := hb.n0
 have m1 := hb.n1
 have k1 := ha.sl
 have k2 := hb.sl
 have k3 := ha.fl
 have k4 := hb.fl
 have k5 := ha.ml
 have k6 := hb.ml
 have q1 := mul_bd (x := a.n) (y := b.n) ⟨hn0, hn1⟩ ⟨m0, m1⟩
 have q2 := mul_bd (x := (a.moves.length : Int)) (y := b.n) (X := 20000) ⟨by omega, by omega⟩ ⟨m0, m1⟩
 have q3 := mul_bd (x := (b.moves.length : Int)) (y := a.n) (X := 20000) ⟨by omega, by omega⟩ ⟨hn0, hn1⟩
 have eN : ((a.n.toNat : Nat) : Int) = a.n := Int.toNat_of_nonneg hn0
 have eM : ((b.n.toNat : Nat) : Int) = b.n := Int.toNat_of_nonneg m0
 have q4 : (((shufA a b).moves.length : Nat) : Int) = (a.moves.length : Int) * b.n + (b.moves.length : Int) * a.n := by
  rw [shuf_len, Int.natCast_add, Int.natCast_mul, Int.natCast_mul, eN, eM]
 refine AF.of_body 162 Tryz.func37 rfl Tryz.ntmps37 (Nat.le_of_ble_eq_true rfl) ?_
 intro w0 M0 vs hl hv
 obtain ⟨v0, v1, rfl⟩ := len2 hl
 clear hl hv
 refine nav ?_
 (refine aC_region ?_ <;> refine s_boxa 2 5 fun h2 => ?_ <;> refine s_boxa 3 5 fun h3 => ?_ <;> refine s_alloc [(.int .i64 0), (.int .i64 0), (.slice none 0 0), (.slice none 0 0), (.slice none 0 0)] 5 4 tZr25_LfD fun h4 => ?_ <;> refine xL 5 q_assign ?_ <;> refine aL_end (nav ?_) <;> try dsimp only)
 (refine aC_region ?_ <;> (refine yL 20 (q_ldao 2 tAgg25_LdS) fun v20 hv20 => ?_; cases hv20) <;> (refine yL 21 (q_ldao 3 tAgg25_LdS) fun v21 hv21 => ?_; cases hv21) <;> (refine cS 22 (cA Tryz.call70 (hf)) fun v22 hv22 => ?_; cases hv22) <;> refine xL 6 q_assign ?_ <;> refine aL_end (nav ?_) <;> try dsimp only)
 (refine aC_region ?_ <;> refine xL 23 q_move ?_ <;> refine xL 24 q_neq ?_ <;> refine aL_end (nav ?_) <;> try dsimp only)
 (first | refine cCd ?_ ?_ | refine cC ?_ ?_) <;> intro hb24
 · first | omega | exact absurd rfl hb24 | exact Bool.noConfusion hb24
 · refine nav ?_
   (refine aC_draw (fun i => ([] : List Nat).elem i) [2, 3] (by kernel_rfl) ?_ <;> refine xD 0 27 rfl (q_fldo 2 tFl25_0_LdI) ?_ <;> (refine yD 1 28 rfl (q_ldo 2 tNa3_LbB) fun v28 hv28 => ?_; cases hv28) <;> refine xD 2 29 rfl (q_fldo 3 tFl25_0_LdI) ?_ <;> (refine yD 3 30 rfl (q_ldo 3 tNa3_LbB) fun v30 hv30 => ?_; cases hv30) <;> refine xE 4 7 rfl q_assign ?_ <;> refine xE 5 8 rfl q_assign ?_ <;> refine aD_end (by kernel_rfl) (nav ?_) <;> try dsimp only)
   (refine aC_region ?_ <;> refine xL 31 q_move ?_ <;> refine xL 32 q_move ?_ <;> refine xL 33 q_mul ?_ <;> refine xL 34 q_gtr ?_ <;> refine xL 35 q_move ?_ <;> (refine bLd 35 (fun hb35 => ?_) (fun hb35 => ?_) <;> (first | refine kL 36 ?_ | refine xL 36 (q_fldo 2 tFl25_4_LdI) ?_)) <;> (first | refine kL 37 ?_ | (refine yL 37 (q_ldo 2 tNa23_LdI) fun v37 hv37 => ?_; cases hv37)) <;> (first | refine kL 38 ?_ | refine xL 38 (q_len tSl23_LdI) ?_) <;> (first | refine kL 39 ?_ | refine xL 39 q_move ?_) <;> (first | refine kL 40 ?_ | refine xL 40 q_mul ?_) <;> (first | refine kL 41 ?_ | refine xL 41 (q_fldo 3 tFl25_4_LdI) ?_) <;> (first | refine kL 42 ?_ | (refine yL 42 (q_ldo 3 tNa23_LdI) fun v42 hv42 => ?_; cases hv42)) <;> (first | refine kL 43 ?_ | refine xL 43 (q_len tSl23_LdI) ?_) <;> (first | refine kL 44 ?_ | refine xL 44 q_move ?_) <;> (first | refine kL 45 ?_ | refine xL 45 q_mul ?_) <;> (first | refine kL 46 ?_ | refine xL 46 q_add ?_) <;> (first | refine kL 47 ?_ | refine xL 47 q_gtr ?_) <;> refine xL 48 q_pick ?_ <;> refine aL_end (nav ?_) <;> try dsimp only) <;> (
    (first | refine cCd ?_ ?_ | refine cC ?_ ?_) <;> intro hb48
    · first
      | exact Bool.noConfusion hb48
      | (
       refine nav ?_
       (refine aC_region ?_ <;> refine xL 49 (q_build tSt25_LfD) ?_ <;> refine s_sta 4 tAgg25_LdS ?_ <;> refine xL 5 q_assign ?_ <;> refine aL_end (nav ?_) <;> try dsimp only)
       exact ret_cs (k := 5) 4 (by kernel_rfl) (Tryz.results37) rfl rfl rfl (Nat.le_of_ble_eq_true rfl) (by decide) rfl (by rw [if_pos (by omega)]; rfl))
    · first
      | exact Bool.noConfusion hb48
      | (
       refine nav ?_
       have hnl : ¬ 2000 < a.n * b.n ∧ (shufA a b).moves.length ≤ 40000 := by omega
       have hr := hr hnl.2
       have hnm := hnl.1
       have hml := hnl.2
       (refine aC_region ?_ <;> refine xL 50 q_move ?_ <;> refine xL 51 q_move ?_ <;> refine xL 52 q_mul ?_ <;> refine xL 53 (q_fldo 2 tFl25_1_LdI) ?_ <;> (refine yL 54 (q_ldo 2 tNa3_LbB) fun v54 hv54 => ?_; cases hv54) <;> refine xL 55 (q_build tSt25_LfD) ?_ <;> refine s_alloc [(.int .i64 0), (.int .i64 0), (.slice none 0 0), (.slice none 0 0), (.slice none 0 0)] 5 9 tZr25_LfD fun h9 => ?_ <;> refine s_sta 9 tAgg25_LdS ?_ <;> refine aL_end (nav ?_) <;> try dsimp only)
       refine aC_ent (nilCells (l := 9) [pInt (a.n * b.n), pInt a.syms, .own 3 1 0 [], .own 3 1 0 [], .own 72 3 0 []] rfl rfl (fun i p p' h1 h2 => by
        match i with
        | 0 => cases h1; cases h2; exact .inl rfl
        | 1 => cases h1; cases h2; exact .inl rfl
        | 2 => cases h1; cases h2; exact .inr ⟨rfl, _, _, rfl⟩
        | 3 => cases h1; cases h2; exact .inr ⟨rfl, _, _, rfl⟩
        | 4 => cases h1; cases h2; exact .inr ⟨rfl, _, _, rfl⟩
        | i + 5 => simp at h2)) fun _ => ?_
       refine aC_ent (focusO (l := 9) (l' := 302) (j := 2) rfl rfl rfl rfl) fun i => ?_
       obtain ⟨v302, ho302⟩ := i
       dsimp only [List.set]
       refine aC_ent (focusO (l := 9) (l' := 303) (j := 3) rfl rfl rfl rfl) fun i => ?_
       obtain ⟨v303, ho303⟩ := i
       dsimp only [List.set]
       refine aC_ent (focusO (l := 9) (l' := 1000) (j := 4) rfl rfl rfl rfl) fun i => ?_
       obtain ⟨v1000, ho1000⟩ := i
       dsimp only [List.set]
       have qo2 : En.one (PV.val v302) = true := ho302
       have qo3 : En.one (PV.val v303) = true := ho303
       refine aC_ent (recast (l := 1000) (p' := .own 72 3 (smA a b 0).length ((smA a b 0).flatMap cMv)) rfl rfl) fun _ => ?_
       (refine aC_region ?_ <;> refine xL 56 (q_fldo 2 tFl25_4_LdI) ?_ <;> (refine yL 57 (q_ldo 2 tNa23_LdI) fun v57 hv57 => ?_; cases hv57) <;> refine xL 58 (q_len tSl23_LdI) ?_ <;> refine xL 59 q_move ?_ <;> refine aL_end (nav ?_) <;> try dsimp only)
       refine aC_loop (ι := { q : Nat × Value // q.1 ≤ a.moves.length ∧ q.2.oneCell' = true }) (fun k => ⟨[(2, _, _), (3, _, _), (4, _, _), (7, _, _), (8, _, _), (9, _, _), (57, _, _), (58, _, _), (59, .int .i64 k.1.1, pInt k.1.1)], [(2, _, _), (3, _, _), (4, _, _), (302, _, _), (303, _, _), (9, h9, .own 25 5 1 [pInt (a.n * b.n), pInt a.syms, .val v302, .val v303, .val k.1.2]), (1000, k.1.2, .own 72 3 (smA a b k.1.1).length ((smA a b k.1.1).flatMap cMv))]⟩) (fun k => a.moves.length - k.1.1) ⟨(0, v1000), Nat.zero_le _, ho1000⟩ (fun a w H => H.weaken ⟨rfl, rfl, rfl, rfl, rfl, rfl, rfl, rfl, rfl, trivial⟩ ⟨rfl, rfl, rfl, rfl, rfl, rfl, rfl, trivial⟩) ?_
       rintro ⟨⟨c, hI⟩, hc, hIo⟩
       dsimp only
       dsimp only at hc hIo
       have q5 : En.one (PV.val hI) = true := hIo
       refine nav ?_
       (refine aC_region ?_ <;> refine xL 60 q_lss ?_ <;> refine aL_end (nav ?_) <;> try dsimp only)
       (first | refine cCd ?_ ?_ | refine cC ?_ ?_) <;> intro hb60
       · first
         | exact Bool.noConfusion hb60
         | (
          obtain ⟨x, hx⟩ := get_some (show c < a.moves.length by omega)
          have e1 := flat_drop cMv_len a.moves c x hx
          have e2 := flat_fit cMv_len hx
          have hxb := ha.mv x (List.mem_of_getElem? hx)
          have hx1 := mul_bd (x := x.src) (y := b.n) (X := 2000) ⟨hxb.1, by omega⟩ ⟨m0, m1⟩
          have hx2 := mul_bd (x := x.dst) (y := b.n) (X := 2000) ⟨hxb.2.2.1, by omega⟩ ⟨m0, m1⟩
          refine nav ?_
          (refine aC_region ?_ <;> refine xL 61 (q_idxN tSl23_LdI) ?_ <;> (refine yL 62 (q_lda tAgg72_LdI) fun v62 hv62 => ?_; cases hv62) <;> refine s_alloc [(.int .i64 0), (.int .i64 0), (.int .i64 0)] 3 11 tZr72_LdI fun h11 => ?_ <;> refine s_sta 11 tAgg72_LdI ?_ <;> refine aL_end (nav ?_) <;> try dsimp only)
          (refine aC_region ?_ <;> refine xL 63 q_move ?_ <;> refine xL 64 q_move ?_ <;> refine aL_end (nav ?_) <;> try dsimp only)
          refine aC_ent (recast (l := 1000) (p' := .own 72 3 (smA a b c ++ shLk b.n x 0).length ((smA a b c ++ shLk b.n x 0).flatMap cMv)) rfl (by rw [show shLk b.n x 0 = [] from rfl, List.append_nil])) fun _ => ?_
          refine aC_loop (ι := { q : Nat × Value // q.1 ≤ b.n.toNat ∧ q.2.oneCell' = true }) (fun k => ⟨[(2, _, _), (3, _, _), (4, _, _), (7, _, _), (8, _, _), (9, _, _), (11, _, _), (57, _, _), (58, _, _), (59, _, _), (63, _, _), (64, .int .i64 k.1.1, pInt k.1.1)], [(2, _, _), (3, _, _), (4, _, _), (11, _, _), (302, _, _), (303, _, _), (9, h9, .own 25 5 1 [pInt (a.n * b.n), pInt a.syms, .val v302, .val v303, .val k.1.2]), (1000, k.1.2, .own 72 3 (smA a b c ++ shLk b.n x k.1.1).length ((smA a b c ++ shLk b.n x k.1.1).flatMap cMv))]⟩) (fun k => b.n.toNat - k.1.1) ⟨(0, hI), Nat.zero_le _, hIo⟩ (fun a w H => H.weaken ⟨rfl, rfl, rfl, rfl, rfl, rfl, rfl, rfl, rfl, rfl, rfl, rfl, trivial⟩ ⟨rfl, rfl, rfl, rfl, rfl, rfl, rfl, rfl, trivial⟩) ?_
          rintro ⟨⟨j, hJ⟩, hj, hJo⟩
          dsimp only
          dsimp only at hj hJo
          have q6 : En.one (PV.val hJ) = true := hJo
          have hpt := smA_part x (lt_of_get hx) hj
          refine nav ?_
          (refine aC_region ?_ <;> refine xL 65 q_lss ?_ <;> refine aL_end (nav ?_) <;> try dsimp only)
          (first | refine cCd ?_ ?_ | refine cC ?_ ?_) <;> intro hb65
          · first
            | exact Bool.noConfusion hb65
            | (
             refine nav ?_
             (refine aC_region ?_ <;> refine xL 66 q_move ?_ <;> refine xL 12 q_assign ?_ <;> refine aL_end (nav ?_) <;> try dsimp only)
             (refine aC_region ?_ <;> refine xL 67 (q_fldo 9 tFl25_4_LdI) ?_ <;> (refine yL 68 (q_ldo 9 tNa23_LdI) fun v68 hv68 => ?_; cases hv68) <;> refine xL 69 (q_fldo 11 tFl72_0_LdI) ?_ <;> (refine yL 70 (q_ldo 11 tNa3_LbB) fun v70 hv70 => ?_; cases hv70) <;> refine xL 71 q_move ?_ <;> refine xL 72 q_mul ?_ <;> refine xL 73 q_move ?_ <;> refine xL 74 q_add ?_ <;> refine xL 75 (q_fldo 11 tFl72_1_LdI) ?_ <;> (refine yL 76 (q_ldo 11 tNa3_LbB) fun v76 hv76 => ?_; cases hv76) <;> refine xL 77 q_move ?_ <;> refine xL 78 q_mul ?_ <;> refine xL 79 q_move ?_ <;> refine xL 80 q_add ?_ <;> refine xL 81 (q_fldo 11 tFl72_2_LdI) ?_ <;> (refine yL 82 (q_ldo 11 tNa3_LbB) fun v82 hv82 => ?_; cases hv82) <;> refine xL 83 (q_build tSt72_LfD) ?_ <;> refine s_lit1a 84 tEl23_LdR fun h84 ho84 => ?_ <;> (refine s_app 1000 84 85 tEl23_LdR fun h85 ho85 => ?_; refine aL_ent (relabel (l := 85) 1000 rfl rfl) fun _ => ?_; refine aL_ent (recast (l := 1000) rfl ((snoc_mv _ (smA a b c ++ shLk b.n x j) ⟨x.src * b.n + (j : Nat), x.dst * b.n + (j : Nat), x.sym⟩).trans (by rw [List.append_assoc, ← shLk_snoc]))) fun _ => ?_; have q85 : En.one (PV.val h85) = true := ho85) <;> refine xL 86 (q_fldo 9 tFl25_4_LdI) ?_ <;> refine s_st 9 tNa23_LdI tSz23_LdR ?_ <;> refine aL_end (nav ?_) <;> try dsimp only)
             (refine aC_region ?_ <;> refine xL 87 q_add ?_ <;> refine xL 64 q_move ?_ <;> refine aL_end (nav ?_) <;> try dsimp only)
             refine aN_again (
              ⟨(j + 1, h85), by dsimp only; omega, ho85⟩
              ) (by dsimp only; omega) ⟨rfl, rfl, rfl, rfl, rfl, rfl, rfl, rfl, rfl, rfl, rfl, rfl, trivial⟩ ⟨rfl, rfl, rfl, rfl, rfl, rfl, rfl, rfl, trivial⟩)
          · first
            | exact Bool.noConfusion hb65
            | (
             refine aC_ent (recast (l := 1000) (p' := .own 72 3 (smA a b (c + 1)).length ((smA a b (c + 1)).flatMap cMv)) rfl (by rw [show smA a b c ++ shLk b.n x j = smA a b (c + 1) by rw [smA_snoc hx, show j = b.n.toNat by omega]])) fun _ => ?_
             refine nav ?_
             (refine aC_region ?_ <;> refine xL 88 q_add ?_ <;> refine xL 59 q_move ?_ <;> refine aL_end (nav ?_) <;> try dsimp only)
             refine aN_again (
              ⟨(c + 1, hJ), lt_of_get hx, hJo⟩
              ) (by dsimp only; omega) ⟨rfl, rfl, rfl, rfl, rfl, rfl, rfl, rfl, rfl, trivial⟩ ⟨rfl, rfl, rfl, rfl, rfl, rfl, rfl, trivial⟩))
       · first
         | exact Bool.noConfusion hb60
         | (
          rw [smA_all (show a.moves.length ≤ c by omega)]
          refine nav ?_
          (refine aC_region ?_ <;> refine xL 89 (q_fldo 3 tFl25_4_LdI) ?_ <;> (refine yL 90 (q_ldo 3 tNa23_LdI) fun v90 hv90 => ?_; cases hv90) <;> refine xL 91 (q_len tSl23_LdI) ?_ <;> refine xL 92 q_move ?_ <;> refine aL_end (nav ?_) <;> try dsimp only)
          refine aC_loop (ι := { q : Nat × Value // q.1 ≤ b.moves.length ∧ q.2.oneCell' = true }) (fun k => ⟨[(2, _, _), (3, _, _), (4, _, _), (7, _, _), (8, _, _), (9, _, _), (90, _, _), (91, _, _), (92, .int .i64 k.1.1, pInt k.1.1)], [(2, _, _), (3, _, _), (4, _, _), (302, _, _), (303, _, _), (9, h9, .own 25 5 1 [pInt (a.n * b.n), pInt a.syms, .val v302, .val v303, .val k.1.2]), (1000, k.1.2, .own 72 3 (smB a b k.1.1).length ((smB a b k.1.1).flatMap cMv))]⟩) (fun k => b.moves.length - k.1.1) ⟨(0, hI), Nat.zero_le _, hIo⟩ (fun a w H => H.weaken ⟨rfl, rfl, rfl, rfl, rfl, rfl, rfl, rfl, rfl, trivial⟩ ⟨rfl, rfl, rfl, rfl, rfl, rfl, rfl, trivial⟩) ?_
          rintro ⟨⟨u, hU⟩, hu, hUo⟩
          dsimp only
          dsimp only at hu hUo
          have q7 : En.one (PV.val hU) = true := hUo
          refine nav ?_
          (refine aC_region ?_ <;> refine xL 93 q_lss ?_ <;> refine aL_end (nav ?_) <;> try dsimp only)
          (first | refine cCd ?_ ?_ | refine cC ?_ ?_) <;> intro hb93
          · first
            | exact Bool.noConfusion hb93
            | (
             obtain ⟨y, hy⟩ := get_some (show u < b.moves.length by omega)
             have e3 := flat_drop cMv_len b.moves u y hy
             have e4 := flat_fit cMv_len hy
             have hyb := hb.mv y (List.mem_of_getElem? hy)
             refine nav ?_
             (refine aC_region ?_ <;> refine xL 94 (q_idxN tSl23_LdI) ?_ <;> (refine yL 95 (q_lda tAgg72_LdI) fun v95 hv95 => ?_; cases hv95) <;> refine s_alloc [(.int .i64 0), (.int .i64 0), (.int .i64 0)] 3 14 tZr72_LdI fun h14 => ?_ <;> refine s_sta 14 tAgg72_LdI ?_ <;> refine aL_end (nav ?_) <;> try dsimp only)
             (refine aC_region ?_ <;> refine xL 96 q_move ?_ <;> refine xL 97 q_move ?_ <;> refine aL_end (nav ?_) <;> try dsimp only)
             refine aC_ent (recast (l := 1000) (p' := .own 72 3 (smB a b u ++ shRk b.n y 0).length ((smB a b u ++ shRk b.n y 0).flatMap cMv)) rfl (by rw [show shRk b.n y 0 = [] from rfl, List.append_nil])) fun _ => ?_
             refine aC_loop (ι := { q : Nat × Value // q.1 ≤ a.n.toNat ∧ q.2.oneCell' = true }) (fun k => ⟨[(2, _, _), (3, _, _), (4, _, _), (7, _, _), (8, _, _), (9, _, _), (14, _, _), (90, _, _), (91, _, _), (92, _, _), (96, _, _), (97, .int .i64 k.1.1, pInt k.1.1)], [(2, _, _), (3, _, _), (4, _, _), (14, _, _), (302, _, _), (303, _, _), (9, h9, .own 25 5 1 [pInt (a.n * b.n), pInt a.syms, .val v302, .val v303, .val k.1.2]), (1000, k.1.2, .own 72 3 (smB a b u ++ shRk b.n y k.1.1).length ((smB a b u ++ shRk b.n y k.1.1).flatMap cMv))]⟩) (fun k => a.n.toNat - k.1.1) ⟨(0, hU), Nat.zero_le _, hUo⟩ (fun a w H => H.weaken ⟨rfl, rfl, rfl, rfl, rfl, rfl, rfl, rfl, rfl, rfl, rfl, rfl, trivial⟩ ⟨rfl, rfl, rfl, rfl, rfl, rfl, rfl, rfl, trivial⟩) ?_
             rintro ⟨⟨i, hV⟩, hi, hVo⟩
             dsimp only
             dsimp only at hi hVo
             have q8 : En.one (PV.val hV) = true := hVo
             have hpt2 := smB_part y (lt_of_get hy) hi
             have hx3 := mul_bd (x := (i : Int)) (y := b.n) (X := 2000) ⟨by omega, by omega⟩ ⟨m0, m1⟩
             refine nav ?_
             (refine aC_region ?_ <;> refine xL 98 q_lss ?_ <;> refine aL_end (nav ?_) <;> try dsimp only)
             (first | refine cCd ?_ ?_ | refine cC ?_ ?_) <;> intro hb98
             · first
               | exact Bool.noConfusion hb98
               | (
                refine nav ?_
                (refine aC_region ?_ <;> refine xL 99 q_move ?_ <;> refine xL 15 q_assign ?_ <;> refine aL_end (nav ?_) <;> try dsimp only)
                (refine aC_region ?_ <;> refine xL 100 (q_fldo 9 tFl25_4_LdI) ?_ <;> (refine yL 101 (q_ldo 9 tNa23_LdI) fun v101 hv101 => ?_; cases hv101) <;> refine xL 102 q_move ?_ <;> refine xL 103 q_move ?_ <;> refine xL 104 q_mul ?_ <;> refine xL 105 (q_fldo 14 tFl72_0_LdI) ?_ <;> (refine yL 106 (q_ldo 14 tNa3_LbB) fun v106 hv106 => ?_; cases hv106) <;> refine xL 107 q_add ?_ <;> refine xL 108 q_move ?_ <;> refine xL 109 q_move ?_ <;> refine xL 110 q_mul ?_ <;> refine xL 111 (q_fldo 14 tFl72_1_LdI) ?_ <;> (refine yL 112 (q_ldo 14 tNa3_LbB) fun v112 hv112 => ?_; cases hv112) <;> refine xL 113 q_add ?_ <;> refine xL 114 (q_fldo 14 tFl72_2_LdI) ?_ <;> (refine yL 115 (q_ldo 14 tNa3_LbB) fun v115 hv115 => ?_; cases hv115) <;> refine xL 116 (q_build tSt72_LfD) ?_ <;> refine s_lit1a 117 tEl23_LdR fun h117 ho117 => ?_ <;> (refine s_app 1000 117 118 tEl23_LdR fun h118 ho118 => ?_; refine aL_ent (relabel (l := 118) 1000 rfl rfl) fun _ => ?_; refine aL_ent (recast (l := 1000) rfl ((snoc_mv _ (smB a b u ++ shRk b.n y i) ⟨(i : Nat) * b.n + y.src, (i : Nat) * b.n + y.dst, y.sym⟩).trans (by rw [List.append_assoc, ← shRk_snoc]))) fun _ => ?_; have q118 : En.one (PV.val h118) = true := ho118) <;> refine xL 119 (q_fldo 9 tFl25_4_LdI) ?_ <;> refine s_st 9 tNa23_LdI tSz23_LdR ?_ <;> refine aL_end (nav ?_) <;> try dsimp only)
                (refine aC_region ?_ <;> refine xL 120 q_add ?_ <;> refine xL 97 q_move ?_ <;> refine aL_end (nav ?_) <;> try dsimp only)
                refine aN_again (
                 ⟨(i + 1, h118), by dsimp only; omega, ho118⟩
                 ) (by dsimp only; omega) ⟨rfl, rfl, rfl, rfl, rfl, rfl, rfl, rfl, rfl, rfl, rfl, rfl, trivial⟩ ⟨rfl, rfl, rfl, rfl, rfl, rfl, rfl, rfl, trivial⟩)
             · first
               | exact Bool.noConfusion hb98
               | (
                refine aC_ent (recast (l := 1000) (p' := .own 72 3 (smB a b (u + 1)).length ((smB a b (u + 1)).flatMap cMv)) rfl (by rw [show smB a b u ++ shRk b.n y i = smB a b (u + 1) by rw [smB_snoc hy, show i = a.n.toNat by omega]])) fun _ => ?_
                refine nav ?_
                (refine aC_region ?_ <;> refine xL 121 q_add ?_ <;> refine xL 92 q_move ?_ <;> refine aL_end (nav ?_) <;> try dsimp only)
                refine aN_again (
                 ⟨(u + 1, hV), lt_of_get hy, hVo⟩
                 ) (by dsimp only; omega) ⟨rfl, rfl, rfl, rfl, rfl, rfl, rfl, rfl, rfl, trivial⟩ ⟨rfl, rfl, rfl, rfl, rfl, rfl, rfl, trivial⟩))
          · first
            | exact Bool.noConfusion hb93
            | (
             rw [smB_all (show b.moves.length ≤ u by omega)]
             refine nav ?_
             (refine aC_region ?_ <;> refine xL 122 (q_fldo 2 tFl25_2_LdI) ?_ <;> (refine yL 123 (q_ldo 2 tNa22_LdI) fun v123 hv123 => ?_; cases hv123) <;> refine xL 124 (q_len tSl22_LbB) ?_ <;> refine xL 125 q_move ?_ <;> refine aL_end (nav ?_) <;> try dsimp only)
             refine aC_ent (recast (l := 302) (p' := .own 3 1 (shI b.n (a.start.take 0) b.start).length ((shI b.n (a.start.take 0) b.start).map pInt)) rfl rfl) fun _ => ?_
             refine aC_loop (ι := { q : Nat × Value // q.1 ≤ a.start.length ∧ q.2.oneCell' = true }) (fun k => ⟨[(2, _, _), (3, _, _), (4, _, _), (7, _, _), (8, _, _), (9, _, _), (123, _, _), (124, _, _), (125, .int .i64 k.1.1, pInt k.1.1)], [(2, _, _), (3, _, _), (4, _, _), (303, _, _), (1000, _, _), (9, h9, .own 25 5 1 [pInt (a.n * b.n), pInt a.syms, .val k.1.2, .val v303, .val hU]), (302, k.1.2, .own 3 1 (shI b.n (a.start.take k.1.1) b.start).length ((shI b.n (a.start.take k.1.1) b.start).map pInt))]⟩) (fun k => a.start.length - k.1.1) ⟨(0, v302), Nat.zero_le _, ho302⟩ (fun a w H => H.weaken ⟨rfl, rfl, rfl, rfl, rfl, rfl, rfl, rfl, rfl, trivial⟩ ⟨rfl, rfl, rfl, rfl, rfl, rfl, rfl, trivial⟩) ?_
             rintro ⟨⟨s, hS⟩, hs', hSo⟩
             dsimp only
             dsimp only at hs' hSo
             have q9 : En.one (PV.val hS) = true := hSo
             have hSl : (shI b.n (a.start.take s) b.start).length ≤ 2000 * 2000 := by rw [shI_len, List.length_take]; exact Nat.mul_le_mul (by omega) k2
             refine nav ?_
             (refine aC_region ?_ <;> refine xL 126 q_lss ?_ <;> refine aL_end (nav ?_) <;> try dsimp only)
             (first | refine cCd ?_ ?_ | refine cC ?_ ?_) <;> intro hb126
             · first
               | exact Bool.noConfusion hb126
               | (
                obtain ⟨z, hz⟩ := get_some (show s < a.start.length by omega)
                have e5 := map_at (f := pInt) hz
                have hzb := ha.st z (List.mem_of_getElem? hz)
                have hz1 := mul_bd (x := z) (y := b.n) (X := a.n) (Y := b.n) ⟨hzb.1, by omega⟩ ⟨m0, Int.le_refl _⟩
                have hal := addI_len (z * b.n) b.start
                refine nav ?_
                (refine aC_region ?_ <;> refine xL 127 (q_idxN tSl22_LbB) ?_ <;> (refine yL 128 (q_ld tNa3_LbB) fun v128 hv128 => ?_; cases hv128) <;> refine xL 17 q_assign ?_ <;> refine aL_end (nav ?_) <;> try dsimp only)
                (refine aC_draw (fun i => ([10] : List Nat).elem i) [3, 9] (by kernel_rfl) ?_ <;> refine xD 0 129 rfl (q_fldo 9 tFl25_2_LdI) ?_ <;> (refine yD 1 130 rfl (q_ldo 9 tNa22_LdI) fun v130 hv130 => ?_; cases hv130) <;> refine xD 2 131 rfl (q_fldo 3 tFl25_2_LdI) ?_ <;> (refine yD 3 132 rfl (q_ldo 3 tNa22_LdI) fun v132 hv132 => ?_; cases hv132) <;> refine xD 4 133 rfl q_move ?_ <;> refine xE 5 134 rfl q_move ?_ <;> refine xE 6 135 rfl q_mul ?_ <;> (refine aD_one 7 (by kernel_rfl) ?_) <;> (refine aW_run rfl fun w9 M9 N9 DQ back => ?_) <;> (refine cO 136 (cA Tryz.call87 (aShifted_e b.start (z * b.n) (by omega) (by omega) (fun x hx => by have := hb.st x hx; omega))) fun v136 ho136 => ?_; refine aL_ent (En.freeze (l := 136) (t := 136) rfl rfl) fun _ => ?_; rw [share_ints _ _ _ rfl]) <;> refine aL_end (back _ (nrm ?_)) <;> (refine aD_one 8 (by kernel_rfl) ?_) <;> (refine aW_run rfl fun w9 M9 N9 DQ back => ?_) <;> (refine s_apps 302 137 tEl22_LdI (fun h137 ho137 => ?_) (ints_len1 (addI (z * b.n) b.start)) (ints_one (addI (z * b.n) b.start)); have q137 : En.one (PV.val h137) = true := ho137; refine aL_ent (relabel (l := 137) 302 rfl rfl) fun _ => ?_; refine aL_ent (recast (l := 302) rfl ((ints_app _ (shI b.n (a.start.take s) b.start) (addI (z * b.n) b.start)).trans (by rw [← shI_snoc hz]))) fun _ => ?_) <;> refine aL_end (back _ (nrm ?_)) <;> refine xE 9 138 rfl (q_fldo 9 tFl25_2_LdI) ?_ <;> (refine aD_one 10 (by kernel_rfl) ?_) <;> (refine aW_last rfl rfl (by kernel_rfl) fun DQ back => ?_) <;> refine s_st 9 tNa22_LdI tSz22_LdK ?_ <;> refine aL_end (back _ (nav ?_)) <;> try dsimp only)
                (refine aC_region ?_ <;> refine xL 139 q_add ?_ <;> refine xL 125 q_move ?_ <;> refine aL_end (nav ?_) <;> try dsimp only)
                refine aN_again (
                 ⟨(s + 1, h137), lt_of_get hz, ho137⟩
                 ) (by dsimp only; omega) ⟨rfl, rfl, rfl, rfl, rfl, rfl, rfl, rfl, rfl, trivial⟩ ⟨rfl, rfl, rfl, rfl, rfl, rfl, rfl, trivial⟩)
             · first
               | exact Bool.noConfusion hb126
               | (
                rw [List.take_of_length_le (show a.start.length ≤ s by omega)]
                refine nav ?_
                (refine aC_region ?_ <;> refine xL 140 (q_fldo 2 tFl25_3_LdI) ?_ <;> (refine yL 141 (q_ldo 2 tNa22_LdI) fun v141 hv141 => ?_; cases hv141) <;> refine xL 142 (q_len tSl22_LbB) ?_ <;> refine xL 143 q_move ?_ <;> refine aL_end (nav ?_) <;> try dsimp only)
                refine aC_ent (recast (l := 303) (p' := .own 3 1 (shI b.n (a.fin.take 0) b.fin).length ((shI b.n (a.fin.take 0) b.fin).map pInt)) rfl rfl) fun _ => ?_
                refine aC_loop (ι := { q : Nat × Value // q.1 ≤ a.fin.length ∧ q.2.oneCell' = true }) (fun k => ⟨[(2, _, _), (3, _, _), (4, _, _), (7, _, _), (8, _, _), (9, _, _), (141, _, _), (142, _, _), (143, .int .i64 k.1.1, pInt k.1.1)], [(2, _, _), (3, _, _), (4, _, _), (302, _, _), (1000, _, _), (9, h9, .own 25 5 1 [pInt (a.n * b.n), pInt a.syms, .val hS, .val k.1.2, .val hU]), (303, k.1.2, .own 3 1 (shI b.n (a.fin.take k.1.1) b.fin).length ((shI b.n (a.fin.take k.1.1) b.fin).map pInt))]⟩) (fun k => a.fin.length - k.1.1) ⟨(0, v303), Nat.zero_le _, ho303⟩ (fun a w H => H.weaken ⟨rfl, rfl, rfl, rfl, rfl, rfl, rfl, rfl, rfl, trivial⟩ ⟨rfl, rfl, rfl, rfl, rfl, rfl, rfl, trivial⟩) ?_
                rintro ⟨⟨t, hT⟩, ht, hTo⟩
                dsimp only
                dsimp only at ht hTo
                have q10 : En.one (PV.val hT) = true := hTo
                have hTl : (shI b.n (a.fin.take t) b.fin).length ≤ 2000 * 2000 := by rw [shI_len, List.length_take]; exact Nat.mul_le_mul (by omega) k4
                refine nav ?_
                (refine aC_region ?_ <;> refine xL 144 q_lss ?_ <;> refine aL_end (nav ?_) <;> try dsimp only)
                (first | refine cCd ?_ ?_ | refine cC ?_ ?_) <;> intro hb144
                · first
                  | exact Bool.noConfusion hb144
                  | (
                   obtain ⟨z2, hz2⟩ := get_some (show t < a.fin.length by omega)
                   have e6 := map_at (f := pInt) hz2
                   have hzb2 := ha.fi z2 (List.mem_of_getElem? hz2)
                   have hz3 := mul_bd (x := z2) (y := b.n) (X := a.n) (Y := b.n) ⟨hzb2.1, by omega⟩ ⟨m0, Int.le_refl _⟩
                   have hal2 := addI_len (z2 * b.n) b.fin
                   refine nav ?_
                   (refine aC_region ?_ <;> refine xL 145 (q_idxN tSl22_LbB) ?_ <;> (refine yL 146 (q_ld tNa3_LbB) fun v146 hv146 => ?_; cases hv146) <;> refine xL 19 q_assign ?_ <;> refine aL_end (nav ?_) <;> try dsimp only)
                   (refine aC_draw (fun i => ([10] : List Nat).elem i) [3, 9] (by kernel_rfl) ?_ <;> refine xD 0 147 rfl (q_fldo 9 tFl25_3_LdI) ?_ <;> (refine yD 1 148 rfl (q_ldo 9 tNa22_LdI) fun v148 hv148 => ?_; cases hv148) <;> refine xD 2 149 rfl (q_fldo 3 tFl25_3_LdI) ?_ <;> (refine yD 3 150 rfl (q_ldo 3 tNa22_LdI) fun v150 hv150 => ?_; cases hv150) <;> refine xD 4 151 rfl q_move ?_ <;> refine xE 5 152 rfl q_move ?_ <;> refine xE 6 153 rfl q_mul ?_ <;> (refine aD_one 7 (by kernel_rfl) ?_) <;> (refine aW_run rfl fun w9 M9 N9 DQ back => ?_) <;> (refine cO 154 (cA Tryz.call87 (aShifted_e b.fin (z2 * b.n) (by omega) (by omega) (fun x hx => by have := hb.fi x hx; omega))) fun v154 ho154 => ?_; refine aL_ent (En.freeze (l := 154) (t := 154) rfl rfl) fun _ => ?_; rw [share_ints _ _ _ rfl]) <;> refine aL_end (back _ (nrm ?_)) <;> (refine aD_one 8 (by kernel_rfl) ?_) <;> (refine aW_run rfl fun w9 M9 N9 DQ back => ?_) <;> (refine s_apps 303 155 tEl22_LdI (fun h155 ho155 => ?_) (ints_len1 (addI (z2 * b.n) b.fin)) (ints_one (addI (z2 * b.n) b.fin)); have q155 : En.one (PV.val h155) = true := ho155; refine aL_ent (relabel (l := 155) 303 rfl rfl) fun _ => ?_; refine aL_ent (recast (l := 303) rfl ((ints_app _ (shI b.n (a.fin.take t) b.fin) (addI (z2 * b.n) b.fin)).trans (by rw [← shI_snoc hz2]))) fun _ => ?_) <;> refine aL_end (back _ (nrm ?_)) <;> refine xE 9 156 rfl (q_fldo 9 tFl25_3_LdI) ?_ <;> (refine aD_one 10 (by kernel_rfl) ?_) <;> (refine aW_last rfl rfl (by kernel_rfl) fun DQ back => ?_) <;> refine s_st 9 tNa22_LdI tSz22_LdK ?_ <;> refine aL_end (back _ (nav ?_)) <;> try dsimp only)
                   (refine aC_region ?_ <;> refine xL 157 q_add ?_ <;> refine xL 143 q_move ?_ <;> refine aL_end (nav ?_) <;> try dsimp only)
                   refine aN_again (
                    ⟨(t + 1, h155), lt_of_get hz2, ho155⟩
                    ) (by dsimp only; omega) ⟨rfl, rfl, rfl, rfl, rfl, rfl, rfl, rfl, rfl, trivial⟩ ⟨rfl, rfl, rfl, rfl, rfl, rfl, rfl, trivial⟩)
                · first
                  | exact Bool.noConfusion hb144
                  | (
                   rw [List.take_of_length_le (show a.fin.length ≤ t by omega)]
                   refine nav ?_
                   refine aC_ent (freezeCell (l := 9) (l' := 302) (j := 2) rfl rfl rfl rfl) fun _ => ?_
                   refine aC_ent (freezeCell (l := 9) (l' := 303) (j := 3) rfl rfl rfl rfl) fun _ => ?_
                   rw [share_ints _ _ _ rfl, share_ints _ _ _ rfl]
                   (refine aC_region ?_ <;> (refine yL 158 (q_ldao (k := 5) (ps := [pInt (a.n * b.n), pInt a.syms, pInts (shI b.n a.start b.start), pInts (shI b.n a.fin b.fin), PV.val hU]) 9 (by kernel_rfl)) fun v158 hv158 => ?_; cases hv158) <;> (refine aL_heap [(1000, hU, PV.own 72 3 (shufA a b).moves.length ((shufA a b).moves.flatMap cMv)), (2, _, _), (3, _, _), (4, _, _), (9, _, _)] ⟨rfl, rfl, rfl, rfl, rfl, trivial⟩ ?_; refine aL_ch [2, 3, 4, 9] 159 (Tryz.call88) (aMade_d (shufA a b) (by omega) _ hU hUo r5 hr) ?_; rintro _ _ _ ⟨⟨V1, rfl⟩, rfl, rfl⟩) <;> refine xL 160 q_extract ?_ <;> refine xL 161 q_extract ?_ <;> refine s_sta 4 tAgg25_LdS ?_ <;> refine xL 5 q_assign ?_ <;> refine aL_end (nav ?_) <;> try dsimp only)
                   exact ret_cs (k := 5) 4 (by kernel_rfl) (Tryz.results37) rfl rfl rfl (Nat.le_of_ble_eq_true rfl) (by decide) r5.s (by rw [if_neg (by omega)]; rfl)))))))
theorem aShuffle_e (a b : Aut) : AF Tryz.prog 37 [pAut a, pAut b] (· = resW (shufX a b)) := by
 unfold shufX
 by_cases h0 : fitX a b = 0
 · rw [if_neg (fun h => h h0)]
   obtain ⟨ha, hb, hs⟩ := fit_vok h0
   by_cases hl : (shufA a b).moves.length ≤ 40000
   · obtain ⟨p0, p1, p2, p3, p4, E, h5, h2, hr⟩ := aReduced_5 (shufA a b) (by omega) (shuf_pre ha hb hs)
     refine (aShuffle_g a b h0 h5 fun _ => hr).mono fun p hp => ?_
     rw [hp]
     split
     · rfl
     · exact h2.symm
   · refine (aShuffle_g a b h0 R5.raw (E := 13) fun h => absurd h hl).mono fun p hp => ?_
     have h1 := ha.n0
     have h2 := hb.n0
     have q4 : (((shufA a b).moves.length : Nat) : Int) = (a.moves.length : Int) * b.n + (b.moves.length : Int) * a.n := by
      rw [shuf_len, Int.natCast_add, Int.natCast_mul, Int.natCast_mul, Int.toNat_of_nonneg h1, Int.toNat_of_nonneg h2]
     rw [hp, if_pos (.inr (by omega)), if_pos (.inr (by omega))]; rfl
 · rw [if_pos h0]
   exact aShuffle_bad a b _ h0 (aFit_e a b)
theorem mvs_app (e : Nat) (l m : List Mv) : PV.own e 3 (l.length + m.length) (l.flatMap cMv ++ m.flatMap cMv) = .own e 3 (l ++ m).length ((l ++ m).flatMap cMv) := by rw [List.length_append, List.flatMap_append]
theorem rowI_snoc (m : Int) (l k : List Int) (i j : Nat) : rowI m l k i (j + 1) = rowI m l k i j ++ cellI m l k i j := flat_snoc _ _
theorem allI_snoc (m : Int) (l k : List Int) (i : Nat) : allI m l k (i + 1) = allI m l k i ++ rowI m l k i m.toNat := flat_snoc _ _
theorem rowM_snoc (a b : Aut) (i j : Nat) : rowM a b i (j + 1) = rowM a b i j ++ ownM a b i j := flat_snoc _ _
theorem allM_snoc (a b : Aut) (i : Nat) : allM a b (i + 1) = allM a b i ++ rowM a b i b.n.toNat := flat_snoc _ _
theorem rowI_len (m : Int) (l k : List Int) (i : Nat) : ∀ j, (rowI m l k i j).length ≤ j
 | 0 => Nat.le_refl _
 | j + 1 => by
   have h := rowI_len m l k i j
   rw [rowI_snoc, List.length_append]
   have : (cellI m l k i j).length ≤ 1 := by unfold cellI; split <;> simp
   omega
theorem allI_len (m : Int) (l k : List Int) : ∀ i, (allI m l k i).length ≤ i * m.toNat
 | 0 => Nat.zero_le _
 | i + 1 => by
   have h := allI_len m l k i
   have h2 := rowI_len m l k i m.toNat
   rw [allI_snoc, List.length_append, Nat.succ_mul]
   omega
theorem cell_yes {m : Int} {l k : List Int} {i j : Nat} (h1 : hasI l (i : Nat) = true) (h2 : hasI k (j : Nat) = true) : cellI m l k i j = [(i : Nat) * m + (j : Nat)] := by unfold cellI; rw [h1, h2]; rfl
theorem cell_no1 {m : Int} {l k : List Int} {i j : Nat} (h1 : hasI l (i : Nat) = false) : cellI m l k i j = [] := by unfold cellI; rw [h1]; rfl
theorem cell_no2 {m : Int} {l k : List Int} {i j : Nat} (h1 : hasI k (j : Nat) = false) : cellI m l k i j = [] := by unfold cellI; rw [h1, Bool.and_false]; rfl
theorem ownM_len (a b : Aut) (i j : Nat) : (ownM a b i j).length ≤ a.moves.length + b.moves.length := by
 unfold ownM
 refine Nat.le_trans (mkM_len _) ?_
 unfold apA apB
 rw [List.length_append, List.length_map, List.length_map]
 exact Nat.add_le_add (List.length_filter_le _ _) (List.length_filter_le _ _)
theorem r07Shuffle_bad (a b : Aut) (e : Int) (he : ¬ e = 0) (hf : AF Tryz.prog 89 [pAut a, pAut b] (· = pInt e)) : AF Tryz.prog 38 [pAut a, pAut b] (· = .tup [rawZ, pInt e]) := by
 refine AF.of_body 182 Tryz.func38 rfl Tryz.ntmps38 (Nat.le_of_ble_eq_true rfl) ?_
 intro w0 M0 vs hl hv
 obtain ⟨v0, v1, rfl⟩ := len2 hl
 clear hl hv
 refine nav ?_
 (refine aC_region ?_ <;> refine s_boxa 2 5 fun h2 => ?_ <;> refine s_boxa 3 5 fun h3 => ?_ <;> refine s_alloc [(.int .i64 0), (.int .i64 0), (.slice none 0 0), (.slice none 0 0), (.slice none 0 0)] 5 4 tZr25_LfD fun h4 => ?_ <;> refine xL 5 q_assign ?_ <;> refine aL_end (nav ?_) <;> try dsimp only)
 (refine aC_region ?_ <;> (refine yL 14 (q_ldao 2 tAgg25_LdS) fun v14 hv14 => ?_; cases hv14) <;> (refine yL 15 (q_ldao 3 tAgg25_LdS) fun v15 hv15 => ?_; cases hv15) <;> (refine cS 16 (cA Tryz.call89 (hf)) fun v16 hv16 => ?_; cases hv16) <;> refine xL 6 q_assign ?_ <;> refine aL_end (nav ?_) <;> try dsimp only)
 (refine aC_region ?_ <;> refine xL 17 q_move ?_ <;> refine xL 18 q_neq ?_ <;> refine aL_end (nav ?_) <;> try dsimp only)
 (first | refine cCd ?_ ?_ | refine cC ?_ ?_) <;> intro hb18
 · refine nav ?_
   (refine aC_region ?_ <;> refine xL 19 (q_build tSt25_LfD) ?_ <;> refine xL 20 q_move ?_ <;> refine s_sta 4 tAgg25_LdS ?_ <;> refine xL 5 q_assign ?_ <;> refine aL_end (nav ?_) <;> try dsimp only)
   exact ret_cs (k := 5) 4 (by kernel_rfl) (Tryz.results38) rfl rfl rfl (Nat.le_of_ble_eq_true rfl) (by decide) rfl rfl
 · exact absurd (by simpa using hb18) he
set_option maxHeartbeats 8000000 in
theorem r07Shuffle_g (a b : Aut) (hla : a.moves.length ≤ 1000000) (hlb : b.moves.length ≤ 1000000) (hf0 : fitX a b = 0) {p0 p1 p2 p3 p4 : PV} {E : Int} (r5 : R5 p0 p1 p2 p3 p4) (hr : (mkM (shufA a b).moves).length ≤ 20000 → AF Tryz.prog 92 [pAut (mkA (shufA a b))] (· = .tup [.agg [p0, p1, p2, p3, p4], pInt E])) : AF Tryz.prog 38 [pAut a, pAut b] (· = if 2000 < a.n * b.n ∨ 20000 < (mkM (shufA a b).moves).length then .tup [rawZ, pInt 13] else .tup [.agg [p0, p1, p2, p3, p4], pInt E]) := by
 obtain ⟨o0, o1, o2, o3, o4⟩ := r5.o
 obtain ⟨ha, hb, hs⟩ := fit_vok hf0
 have hf := r07given_e a b hla hlb
 rw [hf0] at hf
 have hn0 := ha.n0
 have hn1 := ha.n1
 have m0 := hb.n0
 have m1 := hb.n1
 have k5 := ha.ml
 have k6 := hb.ml
 have q1 := mul_bd (x := a.n) (y := b.n) ⟨hn0, hn1⟩ ⟨m0, m1⟩
 have eN : ((a.n.toNat : Nat) : Int) = a.n := Int.toNat_of_nonneg hn0
 have eM : ((b.n.toNat : Nat) : Int) = b.n := Int.toNat_of_nonneg m0
 have hall := allM_eq ha hb
 refine AF.of_body 182 Tryz.func38 rfl Tryz.ntmps38 (Nat.le_of_ble_eq_true rfl) ?_
 intro w0 M0 vs hl hv
 obtain ⟨v0, v1, rfl⟩ := len2 hl
 clear hl hv
 refine nav ?_
 (refine aC_region ?_ <;> refine s_boxa 2 5 fun h2 => ?_ <;> refine s_boxa 3 5 fun h3 => ?_ <;> refine s_alloc [(.int .i64 0), (.int .i64 0), (.slice none 0 0), (.slice none 0 0), (.slice none 0 0)] 5 4 tZr25_LfD fun h4 => ?_ <;> refine xL 5 q_assign ?_ <;> refine aL_end (nav ?_) <;> try dsimp only)
 (refine aC_region ?_ <;> (refine yL 14 (q_ldao 2 tAgg25_LdS) fun v14 hv14 => ?_; cases hv14) <;> (refine yL 15 (q_ldao 3 tAgg25_LdS) fun v15 hv15 => ?_; cases hv15) <;> (refine cS 16 (cA Tryz.call89 (hf)) fun v16 hv16 => ?_; cases hv16) <;> refine xL 6 q_assign ?_ <;> refine aL_end (nav ?_) <;> try dsimp only)
 (refine aC_region ?_ <;> refine xL 17 q_move ?_ <;> refine xL 18 q_neq ?_ <;> refine aL_end (nav ?_) <;> try dsimp only)
 (first | refine cCd ?_ ?_ | refine cC ?_ ?_) <;> intro hb18
 · first | omega | exact absurd rfl hb18 | exact Bool.noConfusion hb18
 · refine nav ?_
   (refine aC_region ?_ <;> refine xL 21 (q_fldo 3 tFl25_0_LdI) ?_ <;> (refine yL 22 (q_ldo 3 tNa3_LbB) fun v22 hv22 => ?_; cases hv22) <;> refine xL 7 q_assign ?_ <;> refine aL_end (nav ?_) <;> try dsimp only)
   (refine aC_region ?_ <;> refine xL 23 (q_fldo 2 tFl25_0_LdI) ?_ <;> (refine yL 24 (q_ldo 2 tNa3_LbB) fun v24 hv24 => ?_; cases hv24) <;> refine xL 25 q_move ?_ <;> refine xL 26 q_mul ?_ <;> refine xL 27 (q_fldo 2 tFl25_1_LdI) ?_ <;> (refine yL 28 (q_ldo 2 tNa3_LbB) fun v28 hv28 => ?_; cases hv28) <;> refine xL 29 (q_build tSt25_LfD) ?_ <;> refine s_alloc [(.int .i64 0), (.int .i64 0), (.slice none 0 0), (.slice none 0 0), (.slice none 0 0)] 5 8 tZr25_LfD fun h8 => ?_ <;> refine s_sta 8 tAgg25_LdS ?_ <;> refine aL_end (nav ?_) <;> try dsimp only)
   (refine aC_region ?_ <;> refine xL 30 (q_fldo 8 tFl25_0_LdI) ?_ <;> (refine yL 31 (q_ldo 8 tNa3_LbB) fun v31 hv31 => ?_; cases hv31) <;> refine xL 32 q_gtr ?_ <;> refine aL_end (nav ?_) <;> try dsimp only)
   (first | refine cCd ?_ ?_ | refine cC ?_ ?_) <;> intro hb32
   · first
     | exact Bool.noConfusion hb32
     | (
      refine nav ?_
      (refine aC_region ?_ <;> (refine cP 33 (cA Tryz.call75 (r07limit_e)) fun va33 vb33 hva33 hvb33 => ?_; cases hvb33) <;> refine xL 34 q_extract ?_ <;> refine xL 35 q_extract ?_ <;> refine s_sta 4 tAgg25_LdS ?_ <;> refine xL 5 q_assign ?_ <;> refine aL_end (nav ?_) <;> try dsimp only)
      exact ret_cs (k := 5) 4 (by kernel_rfl) (Tryz.results38) rfl rfl rfl (Nat.le_of_ble_eq_true rfl) (by decide) rfl (by rw [if_pos (by omega)]; rfl))
   · first
     | exact Bool.noConfusion hb32
     | (
      refine nav ?_
      refine aC_ent (nilCells (l := 8) [pInt (a.n * b.n), pInt a.syms, .own 3 1 0 [], .own 3 1 0 [], .own 72 3 0 []] rfl rfl (fun i p p' h1 h2 => by
       match i with
       | 0 => cases h1; cases h2; exact .inl rfl
       | 1 => cases h1; cases h2; exact .inl rfl
       | 2 => cases h1; cases h2; exact .inr ⟨rfl, _, _, rfl⟩
       | 3 => cases h1; cases h2; exact .inr ⟨rfl, _, _, rfl⟩
       | 4 => cases h1; cases h2; exact .inr ⟨rfl, _, _, rfl⟩
       | i + 5 => simp at h2)) fun _ => ?_
      refine aC_ent (focusO (l := 8) (l' := 302) (j := 2) rfl rfl rfl rfl) fun i => ?_
      obtain ⟨v302, ho302⟩ := i
      dsimp only [List.set]
      refine aC_ent (focusO (l := 8) (l' := 303) (j := 3) rfl rfl rfl rfl) fun i => ?_
      obtain ⟨v303, ho303⟩ := i
      dsimp only [List.set]
      refine aC_ent (focusO (l := 8) (l' := 304) (j := 4) rfl rfl rfl rfl) fun i => ?_
      obtain ⟨v304, ho304⟩ := i
      dsimp only [List.set]
      (refine aC_region ?_ <;> refine xL 9 q_assign ?_ <;> refine aL_end (nav ?_) <;> try dsimp only)
      refine aC_loop (ι := { q : Nat × Value × Value × Value // q.1 ≤ a.n.toNat ∧ q.2.1.oneCell' = true ∧ q.2.2.1.oneCell' = true ∧ q.2.2.2.oneCell' = true ∧ (allM a b q.1).length ≤ 20000 }) (fun k => ⟨[(2, _, _), (3, _, _), (4, _, _), (7, _, _), (8, _, _), (9, .int .i64 k.1.1, pInt k.1.1)], [(2, _, _), (3, _, _), (4, _, _), (8, h8, .own 25 5 1 [pInt (a.n * b.n), pInt a.syms, .val k.1.2.1, .val k.1.2.2.1, .val k.1.2.2.2]), (302, k.1.2.1, .own 3 1 (allI b.n a.start b.start k.1.1).length ((allI b.n a.start b.start k.1.1).map pInt)), (303, k.1.2.2.1, .own 3 1 (allI b.n a.fin b.fin k.1.1).length ((allI b.n a.fin b.fin k.1.1).map pInt)), (304, k.1.2.2.2, .own 72 3 (allM a b k.1.1).length ((allM a b k.1.1).flatMap cMv))]⟩) (fun k => a.n.toNat - k.1.1) ⟨(0, v302, v303, v304), Nat.zero_le _, ho302, ho303, ho304, Nat.zero_le _⟩ (fun a w H => H.weaken ⟨rfl, rfl, rfl, rfl, rfl, rfl, trivial⟩ ⟨rfl, rfl, rfl, rfl, rfl, rfl, rfl, trivial⟩) ?_
      rintro ⟨⟨i, hS, hF, hM⟩, hi, hSo, hFo, hMo, hMl⟩
      dsimp only
      dsimp only at hi hSo hFo hMo hMl
      have hx3 := mul_bd (x := (i : Int)) (y := b.n) (X := 2000) ⟨by omega, by omega⟩ ⟨m0, m1⟩
      have hi2 : i * b.n.toNat ≤ 2000 * 2000 := Nat.mul_le_mul (by omega) (by omega)
      have hl1 := allI_len b.n a.start b.start i
      have hl2 := allI_len b.n a.fin b.fin i
      refine nav ?_
      (refine aC_region ?_ <;> refine xL 36 q_move ?_ <;> refine xL 37 (q_fldo 2 tFl25_0_LdI) ?_ <;> (refine yL 38 (q_ldo 2 tNa3_LbB) fun v38 hv38 => ?_; cases hv38) <;> refine xL 39 q_lss ?_ <;> refine aL_end (nav ?_) <;> try dsimp only)
      (first | refine cCd ?_ ?_ | refine cC ?_ ?_) <;> intro hb39
      · first
        | exact Bool.noConfusion hb39
        | (
         have hilt : i < a.n.toNat := by omega
         refine nav ?_
         (refine aC_region ?_ <;> refine xL 10 q_assign ?_ <;> refine aL_end (nav ?_) <;> try dsimp only)
         refine aC_ent (recast (l := 302) (p' := .own 3 1 (allI b.n a.start b.start i ++ rowI b.n a.start b.start i 0).length ((allI b.n a.start b.start i ++ rowI b.n a.start b.start i 0).map pInt)) rfl (by rw [show rowI b.n a.start b.start i 0 = [] from rfl, List.append_nil])) fun _ => ?_
         refine aC_ent (recast (l := 303) (p' := .own 3 1 (allI b.n a.fin b.fin i ++ rowI b.n a.fin b.fin i 0).length ((allI b.n a.fin b.fin i ++ rowI b.n a.fin b.fin i 0).map pInt)) rfl (by rw [show rowI b.n a.fin b.fin i 0 = [] from rfl, List.append_nil])) fun _ => ?_
         refine aC_ent (recast (l := 304) (p' := .own 72 3 (allM a b i ++ rowM a b i 0).length ((allM a b i ++ rowM a b i 0).flatMap cMv)) rfl (by rw [show rowM a b i 0 = [] from rfl, List.append_nil])) fun _ => ?_
         refine aC_loop (ι := { q : Nat × Value × Value × Value // q.1 ≤ b.n.toNat ∧ q.2.1.oneCell' = true ∧ q.2.2.1.oneCell' = true ∧ q.2.2.2.oneCell' = true ∧ (allM a b i ++ rowM a b i q.1).length ≤ 20000 }) (fun k => ⟨[(2, _, _), (3, _, _), (4, _, _), (7, _, _), (8, _, _), (9, _, _), (10, .int .i64 k.1.1, pInt k.1.1)], [(2, _, _), (3, _, _), (4, _, _), (8, h8, .own 25 5 1 [pInt (a.n * b.n), pInt a.syms, .val k.1.2.1, .val k.1.2.2.1, .val k.1.2.2.2]), (302, k.1.2.1, .own 3 1 (allI b.n a.start b.start i ++ rowI b.n a.start b.start i k.1.1).length ((allI b.n a.start b.start i ++ rowI b.n a.start b.start i k.1.1).map pInt)), (303, k.1.2.2.1, .own 3 1 (allI b.n a.fin b.fin i ++ rowI b.n a.fin b.fin i k.1.1).length ((allI b.n a.fin b.fin i ++ rowI b.n a.fin b.fin i k.1.1).map pInt)), (304, k.1.2.2.2, .own 72 3 (allM a b i ++ rowM a b i k.1.1).length ((allM a b i ++ rowM a b i k.1.1).flatMap cMv))]⟩) (fun k => b.n.toNat - k.1.1) ⟨(0, hS, hF, hM), Nat.zero_le _, hSo, hFo, hMo, by show (allM a b i ++ []).length ≤ 20000; rw [List.append_nil]; exact hMl⟩ (fun a w H => H.weaken ⟨rfl, rfl, rfl, rfl, rfl, rfl, rfl, trivial⟩ ⟨rfl, rfl, rfl, rfl, rfl, rfl, rfl, trivial⟩) ?_
         rintro ⟨⟨j, hS2, hF2, hM2⟩, hj, hS2o, hF2o, hM2o, hM2l⟩
         dsimp only
         dsimp only at hj hS2o hF2o hM2o hM2l
         have qS2 : En.one (PV.val hS2) = true := hS2o
         have qF2 : En.one (PV.val hF2) = true := hF2o
         have qM2 : En.one (PV.val hM2) = true := hM2o
         have hl3 := rowI_len b.n a.start b.start i j
         have hl4 := rowI_len b.n a.fin b.fin i j
         have hl5 : (allI b.n a.start b.start i ++ rowI b.n a.start b.start i j).length ≤ 4002000 := by rw [List.length_append]; omega
         have hl6 : (allI b.n a.fin b.fin i ++ rowI b.n a.fin b.fin i j).length ≤ 4002000 := by rw [List.length_append]; omega
         refine nav ?_
         (refine aC_region ?_ <;> refine xL 42 q_move ?_ <;> refine xL 43 q_move ?_ <;> refine xL 44 q_lss ?_ <;> refine aL_end (nav ?_) <;> try dsimp only)
         (first | refine cCd ?_ ?_ | refine cC ?_ ?_) <;> intro hb44
         · first
           | exact Bool.noConfusion hb44
           | (
            have hjlt : j < b.n.toNat := by omega
            refine nav ?_
            (refine aC_region ?_ <;> refine xL 47 (q_fldo 2 tFl25_2_LdI) ?_ <;> (refine yL 48 (q_ldo 2 tNa22_LdI) fun v48 hv48 => ?_; cases hv48) <;> refine xL 49 q_move ?_ <;> (refine cS 50 (cA Tryz.call90 (r07has_e a.start (i : Nat))) fun v50 hv50 => ?_; cases hv50) <;> refine xL 51 q_move ?_ <;> (refine bL 51 (fun hb51 => ?_) (fun hb51 => ?_) <;> (first | refine kL 52 ?_ | refine xL 52 (q_fldo 3 tFl25_2_LdI) ?_)) <;> (first | refine kL 53 ?_ | (refine yL 53 (q_ldo 3 tNa22_LdI) fun v53 hv53 => ?_; cases hv53)) <;> (first | refine kL 54 ?_ | refine xL 54 q_move ?_) <;> (first | refine kL 55 ?_ | (refine cS 55 (cA Tryz.call90 (r07has_e b.start (j : Nat))) fun v55 hv55 => ?_; cases hv55)) <;> refine xL 56 q_pick ?_ <;> refine aL_end (nav ?_) <;> try dsimp only) <;> (
             refine aC_mid (fun x : { x : Value // x.oneCell' = true } => ⟨[(2, padd (sbase h2) 0, .val (padd (sbase h2) 0)), (3, padd (sbase h3) 0, .val (padd (sbase h3) 0)), (4, padd (sbase h4) 0, .val (padd (sbase h4) 0)), (7, .int .i64 b.n, pInt b.n), (8, padd (sbase h8) 0, .val (padd (sbase h8) 0)), (9, .int .i64 (i : Nat), pInt (i : Nat)), (10, .int .i64 (j : Nat), pInt (j : Nat))], [(2, h2, .own 25 5 1 [pInt a.n, pInt a.syms, pInts a.start, pInts a.fin, pMvs a.moves]), (3, h3, .own 25 5 1 [pInt b.n, pInt b.syms, pInts b.start, pInts b.fin, pMvs b.moves]), (4, h4, .own 25 5 1 [pInt 0, pInt 0, .val (.slice none 0 0), .val (.slice none 0 0), .val (.slice none 0 0)]), (8, h8, .own 25 5 1 [pInt (a.n * b.n), pInt a.syms, .val x.1, .val hF2, .val hM2]), (302, x.1, .own 3 1 (allI b.n a.start b.start i ++ rowI b.n a.start b.start i (j + 1)).length ((allI b.n a.start b.start i ++ rowI b.n a.start b.start i (j + 1)).map pInt)), (303, hF2, .own 3 1 (allI b.n a.fin b.fin i ++ rowI b.n a.fin b.fin i j).length ((allI b.n a.fin b.fin i ++ rowI b.n a.fin b.fin i j).map pInt)), (304, hM2, .own 72 3 (allM a b i ++ rowM a b i j).length ((allM a b i ++ rowM a b i j).flatMap cMv))]⟩) ?_ ?_
             · (first | refine cCd ?_ ?_ | refine cC ?_ ?_) <;> intro hb56
               · first
                 | exact Bool.noConfusion hb56
                 | (
                  have hc := cell_yes (m := b.n) (l := a.start) (k := b.start) (i := i) (j := j) (by first | assumption | simpa using hb51) (by first | assumption | simpa using hb56)
                  refine nav ?_
                  (refine aC_region ?_ <;> refine xL 57 (q_fldo 8 tFl25_2_LdI) ?_ <;> (refine yL 58 (q_ldo 8 tNa22_LdI) fun v58 hv58 => ?_; cases hv58) <;> refine xL 59 q_move ?_ <;> refine xL 60 q_move ?_ <;> refine xL 61 q_mul ?_ <;> refine xL 62 q_move ?_ <;> refine xL 63 q_add ?_ <;> refine s_lit1 (kk := 1) 64 tEl22_LdI fun h64 ho64 => ?_ <;> (refine s_app 302 64 65 tEl22_LdI fun h65 ho65 => ?_; refine aL_ent (relabel (l := 65) 302 rfl rfl) fun _ => ?_; refine aL_ent (recast (l := 302) rfl ((own_ints _ (allI b.n a.start b.start i ++ rowI b.n a.start b.start i j) ((i : Nat) * b.n + (j : Nat))).trans (by rw [List.append_assoc, ← hc, ← rowI_snoc]))) fun _ => ?_; have q65 : En.one (PV.val h65) = true := ho65) <;> refine xL 66 (q_fldo 8 tFl25_2_LdI) ?_ <;> refine s_st 8 tNa22_LdI tSz22_LdK ?_ <;> refine aL_end (nav ?_) <;> try dsimp only)
                  first
                   | exact aN_join ⟨h65, ho65⟩ ⟨rfl, rfl, rfl, rfl, rfl, rfl, rfl, trivial⟩ ⟨rfl, rfl, rfl, rfl, rfl, rfl, rfl, trivial⟩
                   | exact aN_join ⟨hS2, hS2o⟩ ⟨rfl, rfl, rfl, rfl, rfl, rfl, rfl, trivial⟩ ⟨rfl, rfl, rfl, rfl, rfl, rfl, rfl, trivial⟩)
               · first
                 | exact Bool.noConfusion hb56
                 | (
                  have hc : cellI b.n a.start b.start i j = [] := by
                   first
                    | exact cell_no1 (by first | assumption | simpa using hb51)
                    | exact cell_no2 (by first | assumption | simpa using hb56)
                  refine aC_ent (recast (l := 302) (p' := .own 3 1 (allI b.n a.start b.start i ++ rowI b.n a.start b.start i (j + 1)).length ((allI b.n a.start b.start i ++ rowI b.n a.start b.start i (j + 1)).map pInt)) rfl (by rw [rowI_snoc, hc, List.append_nil])) fun _ => ?_
                  refine nav ?_
                  first
                   | exact aN_join ⟨h65, ho65⟩ ⟨rfl, rfl, rfl, rfl, rfl, rfl, rfl, trivial⟩ ⟨rfl, rfl, rfl, rfl, rfl, rfl, rfl, trivial⟩
                   | exact aN_join ⟨hS2, hS2o⟩ ⟨rfl, rfl, rfl, rfl, rfl, rfl, rfl, trivial⟩ ⟨rfl, rfl, rfl, rfl, rfl, rfl, rfl, trivial⟩)
             · rintro ⟨hS3, hS3o⟩
               dsimp only at hS3o ⊢
               have qS3 : En.one (PV.val hS3) = true := hS3o
               refine nav ?_
               (refine aC_region ?_ <;> refine xL 67 (q_fldo 2 tFl25_3_LdI) ?_ <;> (refine yL 68 (q_ldo 2 tNa22_LdI) fun v68 hv68 => ?_; cases hv68) <;> refine xL 69 q_move ?_ <;> (refine cS 70 (cA Tryz.call90 (r07has_e a.fin (i : Nat))) fun v70 hv70 => ?_; cases hv70) <;> refine xL 71 q_move ?_ <;> (refine bL 71 (fun hb71 => ?_) (fun hb71 => ?_) <;> (first | refine kL 72 ?_ | refine xL 72 (q_fldo 3 tFl25_3_LdI) ?_)) <;> (first | refine kL 73 ?_ | (refine yL 73 (q_ldo 3 tNa22_LdI) fun v73 hv73 => ?_; cases hv73)) <;> (first | refine kL 74 ?_ | refine xL 74 q_move ?_) <;> (first | refine kL 75 ?_ | (refine cS 75 (cA Tryz.call90 (r07has_e b.fin (j : Nat))) fun v75 hv75 => ?_; cases hv75)) <;> refine xL 76 q_pick ?_ <;> refine aL_end (nav ?_) <;> try dsimp only) <;> (
                refine aC_mid (fun x : { x : Value // x.oneCell' = true } => ⟨[(2, padd (sbase h2) 0, .val (padd (sbase h2) 0)), (3, padd (sbase h3) 0, .val (padd (sbase h3) 0)), (4, padd (sbase h4) 0, .val (padd (sbase h4) 0)), (7, .int .i64 b.n, pInt b.n), (8, padd (sbase h8) 0, .val (padd (sbase h8) 0)), (9, .int .i64 (i : Nat), pInt (i : Nat)), (10, .int .i64 (j : Nat), pInt (j : Nat))], [(2, h2, .own 25 5 1 [pInt a.n, pInt a.syms, pInts a.start, pInts a.fin, pMvs a.moves]), (3, h3, .own 25 5 1 [pInt b.n, pInt b.syms, pInts b.start, pInts b.fin, pMvs b.moves]), (4, h4, .own 25 5 1 [pInt 0, pInt 0, .val (.slice none 0 0), .val (.slice none 0 0), .val (.slice none 0 0)]), (8, h8, .own 25 5 1 [pInt (a.n * b.n), pInt a.syms, .val hS3, .val x.1, .val hM2]), (302, hS3, .own 3 1 (allI b.n a.start b.start i ++ rowI b.n a.start b.start i (j + 1)).length ((allI b.n a.start b.start i ++ rowI b.n a.start b.start i (j + 1)).map pInt)), (303, x.1, .own 3 1 (allI b.n a.fin b.fin i ++ rowI b.n a.fin b.fin i (j + 1)).length ((allI b.n a.fin b.fin i ++ rowI b.n a.fin b.fin i (j + 1)).map pInt)), (304, hM2, .own 72 3 (allM a b i ++ rowM a b i j).length ((allM a b i ++ rowM a b i j).flatMap cMv))]⟩) ?_ ?_
                · (first | refine cCd ?_ ?_ | refine cC ?_ ?_) <;> intro hb76
                  · first
                    | exact Bool.noConfusion hb76
                    | (
                     have hc := cell_yes (m := b.n) (l := a.fin) (k := b.fin) (i := i) (j := j) (by first | assumption | simpa using hb71) (by first | assumption | simpa using hb76)
                     refine nav ?_
                     (refine aC_region ?_ <;> refine xL 77 (q_fldo 8 tFl25_3_LdI) ?_ <;> (refine yL 78 (q_ldo 8 tNa22_LdI) fun v78 hv78 => ?_; cases hv78) <;> refine xL 79 q_move ?_ <;> refine xL 80 q_move ?_ <;> refine xL 81 q_mul ?_ <;> refine xL 82 q_move ?_ <;> refine xL 83 q_add ?_ <;> refine s_lit1 (kk := 1) 84 tEl22_LdI fun h84 ho84 => ?_ <;> (refine s_app 303 84 85 tEl22_LdI fun h85 ho85 => ?_; refine aL_ent (relabel (l := 85) 303 rfl rfl) fun _ => ?_; refine aL_ent (recast (l := 303) rfl ((own_ints _ (allI b.n a.fin b.fin i ++ rowI b.n a.fin b.fin i j) ((i : Nat) * b.n + (j : Nat))).trans (by rw [List.append_assoc, ← hc, ← rowI_snoc]))) fun _ => ?_; have q85 : En.one (PV.val h85) = true := ho85) <;> refine xL 86 (q_fldo 8 tFl25_3_LdI) ?_ <;> refine s_st 8 tNa22_LdI tSz22_LdK ?_ <;> refine aL_end (nav ?_) <;> try dsimp only)
                     first
                      | exact aN_join ⟨h85, ho85⟩ ⟨rfl, rfl, rfl, rfl, rfl, rfl, rfl, trivial⟩ ⟨rfl, rfl, rfl, rfl, rfl, rfl, rfl, trivial⟩
                      | exact aN_join ⟨hF2, hF2o⟩ ⟨rfl, rfl, rfl, rfl, rfl, rfl, rfl, trivial⟩ ⟨rfl, rfl, rfl, rfl, rfl, rfl, rfl, trivial⟩)
                  · first
                    | exact Bool.noConfusion hb76
                    | (
                     have hc : cellI b.n a.fin b.fin i j = [] := by
                      first
                       | exact cell_no1 (by first | assumption | simpa using hb71)
                       | exact cell_no2 (by first | assumption | simpa using hb76)
                     refine aC_ent (recast (l := 303) (p' := .own 3 1 (allI b.n a.fin b.fin i ++ rowI b.n a.fin b.fin i (j + 1)).length ((allI b.n a.fin b.fin i ++ rowI b.n a.fin b.fin i (j + 1)).map pInt)) rfl (by rw [rowI_snoc, hc, List.append_nil])) fun _ => ?_
                     refine nav ?_
                     first
                      | exact aN_join ⟨h85, ho85⟩ ⟨rfl, rfl, rfl, rfl, rfl, rfl, rfl, trivial⟩ ⟨rfl, rfl, rfl, rfl, rfl, rfl, rfl, trivial⟩
                      | exact aN_join ⟨hF2, hF2o⟩ ⟨rfl, rfl, rfl, rfl, rfl, rfl, rfl, trivial⟩ ⟨rfl, rfl, rfl, rfl, rfl, rfl, rfl, trivial⟩)
                · rintro ⟨hF3, hF3o⟩
                  dsimp only at hF3o ⊢
                  have qF3 : En.one (PV.val hF3) = true := hF3o
                  refine nav ?_
                  (refine aC_region ?_ <;> refine s_lit0 87 tEl23_LdR fun h87 ho87 => ?_ <;> refine xL 11 q_assign ?_ <;> refine aL_end (nav ?_) <;> try dsimp only)
                  refine aC_ent (En.freeze (l := 87) (t := 11) rfl rfl) fun _ => ?_
                  refine aC_ent (reslot (t := 11) (p' := pMvs (mkM (apA b.n i j (a.moves.take 0)))) rfl rfl) fun _ => ?_
                  (refine aC_region ?_ <;> refine xL 12 q_assign ?_ <;> refine aL_end (nav ?_) <;> try dsimp only)
                  refine aC_loop (ι := { q : Nat × Value // q.1 ≤ a.moves.length }) (fun k => ⟨[(2, _, _), (3, _, _), (4, _, _), (7, _, _), (8, _, _), (9, _, _), (10, _, _), (11, k.1.2, pMvs (mkM (apA b.n i j (a.moves.take k.1.1)))), (12, .int .i64 k.1.1, pInt k.1.1)], [(2, _, _), (3, _, _), (4, _, _), (8, _, _), (302, _, _), (303, _, _), (304, _, _)]⟩) (fun k => a.moves.length - k.1.1) ⟨(0, h87), Nat.zero_le _⟩ (fun a w H => H.weaken ⟨rfl, rfl, rfl, rfl, rfl, rfl, rfl, rfl, rfl, trivial⟩ ⟨rfl, rfl, rfl, rfl, rfl, rfl, rfl, trivial⟩) ?_
                  rintro ⟨⟨u, V⟩, hu⟩
                  dsimp only
                  dsimp only at hu
                  refine nav ?_
                  (refine aC_region ?_ <;> refine xL 88 q_move ?_ <;> refine xL 89 (q_fldo 2 tFl25_4_LdI) ?_ <;> (refine yL 90 (q_ldo 2 tNa23_LdI) fun v90 hv90 => ?_; cases hv90) <;> refine xL 91 (q_len tSl23_LdI) ?_ <;> refine xL 92 q_lss ?_ <;> refine aL_end (nav ?_) <;> try dsimp only)
                  (first | refine cCd ?_ ?_ | refine cC ?_ ?_) <;> intro hb92
                  · first
                    | exact Bool.noConfusion hb92
                    | (
                     obtain ⟨x, hx⟩ := get_some (show u < a.moves.length by omega)
                     obtain ⟨e0, e1, e2⟩ := mv_at hx
                     have hxb := ha.mv x (List.mem_of_getElem? hx)
                     have hx2 := mul_bd (x := x.dst) (y := b.n) (X := 2000) ⟨hxb.2.2.1, by omega⟩ ⟨m0, m1⟩
                     refine nav ?_
                     (refine aC_region ?_ <;> refine xL 95 (q_fldo 2 tFl25_4_LdI) ?_ <;> (refine yL 96 (q_ldo 2 tNa23_LdI) fun v96 hv96 => ?_; cases hv96) <;> refine xL 97 q_move ?_ <;> refine xL 98 (q_idxN tSl23_LdI) ?_ <;> refine xL 99 (q_fld tFl72_0_LdI) ?_ <;> (refine yL 100 (q_ld tNa3_LbB) fun v100 hv100 => ?_; cases hv100) <;> refine xL 101 q_move ?_ <;> refine xL 102 q_eql ?_ <;> refine aL_end (nav ?_) <;> try dsimp only)
                     (first | refine cCd ?_ ?_ | refine cC ?_ ?_) <;> intro hb102
                     · first
                       | exact Bool.noConfusion hb102
                       | (
                        have hins : AF Tryz.prog 91 [pMvs (mkM (apA b.n i j (a.moves.take u))), .agg (cMv ⟨(i : Nat) * b.n + (j : Nat), x.dst * b.n + (j : Nat), x.sym⟩)] (· = pMvs (mkM (apA b.n i j (a.moves.take (u + 1))))) := by
                         have h1 := r07insert_e (mkM (apA b.n i j (a.moves.take u))) ⟨(i : Nat) * b.n + (j : Nat), x.dst * b.n + (j : Nat), x.sym⟩ (Nat.le_trans (mkM_len _) (by unfold apA; rw [List.length_map]; exact Nat.le_trans (List.length_filter_le _ _) (by rw [List.length_take]; omega))) (mkM_asc _)
                         rw [ins_mk, ← apA_yes hx hb102] at h1
                         exact h1
                        refine nav ?_
                        (refine aC_draw (fun i => ([] : List Nat).elem i) [2] (by kernel_rfl) ?_ <;> refine xD 0 103 rfl q_move ?_ <;> refine xD 1 104 rfl q_move ?_ <;> refine xD 2 105 rfl q_move ?_ <;> refine xD 3 106 rfl q_mul ?_ <;> refine xD 4 107 rfl q_move ?_ <;> refine xD 5 108 rfl q_add ?_ <;> refine xD 6 109 rfl (q_fldo 2 tFl25_4_LdI) ?_ <;> (refine yD 7 110 rfl (q_ldo 2 tNa23_LdI) fun v110 hv110 => ?_; cases hv110) <;> refine xD 8 111 rfl q_move ?_ <;> refine xD 9 112 rfl (q_idxN tSl23_LdI) ?_ <;> refine xD 10 113 rfl (q_fld tFl72_1_LdI) ?_ <;> (refine yD 11 114 rfl (q_ld tNa3_LbB) fun v114 hv114 => ?_; cases hv114) <;> refine xD 12 115 rfl q_move ?_ <;> refine xD 13 116 rfl q_mul ?_ <;> refine xD 14 117 rfl q_move ?_ <;> refine xD 15 118 rfl q_add ?_ <;> refine xD 16 119 rfl (q_fldo 2 tFl25_4_LdI) ?_ <;> (refine yD 17 120 rfl (q_ldo 2 tNa23_LdI) fun v120 hv120 => ?_; cases hv120) <;> refine xE 18 121 rfl q_move ?_ <;> refine xE 19 122 rfl (q_idxN tSl23_LdI) ?_ <;> refine xE 20 123 rfl (q_fld tFl72_2_LdI) ?_ <;> (refine yE 21 124 rfl (q_ld tNa3_LbB) fun v124 hv124 => ?_; cases hv124) <;> refine xE 22 125 rfl (q_build tSt72_LfD) ?_ <;> (refine aD_one 23 (by kernel_rfl) ?_) <;> (refine aW_run rfl fun w9 M9 N9 DQ back => ?_) <;> (refine cS 126 (cA Tryz.call91 (hins)) fun v126 hv126 => ?_; cases hv126) <;> refine aL_end (back _ (nrm ?_)) <;> refine xE 24 11 rfl q_assign ?_ <;> refine aD_end (by kernel_rfl) (nav ?_) <;> try dsimp only)
                        (refine aC_region ?_ <;> refine xL 93 q_move ?_ <;> refine xL 94 q_add ?_ <;> refine xL 12 q_assign ?_ <;> refine aL_end (nav ?_) <;> try dsimp only)
                        first
                         | (exact aN_again (
                             ⟨(u + 1, v126), lt_of_get hx⟩
                             ) (by dsimp only; omega) ⟨rfl, rfl, rfl, rfl, rfl, rfl, rfl, rfl, rfl, trivial⟩ ⟨rfl, rfl, rfl, rfl, rfl, rfl, rfl, trivial⟩)
                         | (exact aN_again (
                             ⟨(u + 1, V), lt_of_get hx⟩
                             ) (by dsimp only; omega) ⟨rfl, rfl, rfl, rfl, rfl, rfl, rfl, rfl, rfl, trivial⟩ ⟨rfl, rfl, rfl, rfl, rfl, rfl, rfl, trivial⟩))
                     · first
                       | exact Bool.noConfusion hb102
                       | (
                        refine aC_ent (reslot (t := 11) (p' := pMvs (mkM (apA b.n i j (a.moves.take (u + 1))))) rfl (by rw [apA_no hx hb102])) fun _ => ?_
                        refine nav ?_
                        (refine aC_region ?_ <;> refine xL 93 q_move ?_ <;> refine xL 94 q_add ?_ <;> refine xL 12 q_assign ?_ <;> refine aL_end (nav ?_) <;> try dsimp only)
                        first
                         | (exact aN_again (
                             ⟨(u + 1, v126), lt_of_get hx⟩
                             ) (by dsimp only; omega) ⟨rfl, rfl, rfl, rfl, rfl, rfl, rfl, rfl, rfl, trivial⟩ ⟨rfl, rfl, rfl, rfl, rfl, rfl, rfl, trivial⟩)
                         | (exact aN_again (
                             ⟨(u + 1, V), lt_of_get hx⟩
                             ) (by dsimp only; omega) ⟨rfl, rfl, rfl, rfl, rfl, rfl, rfl, rfl, rfl, trivial⟩ ⟨rfl, rfl, rfl, rfl, rfl, rfl, rfl, trivial⟩)))
                  · first
                    | exact Bool.noConfusion hb92
                    | (
                     refine aC_ent (reslot (t := 11) (p' := pMvs (mkM (apA b.n i j a.moves ++ apB b.n i j (b.moves.take 0)))) rfl (by rw [List.take_of_length_le (show a.moves.length ≤ u by omega), show apB b.n i j (b.moves.take 0) = [] from rfl, List.append_nil])) fun _ => ?_
                     refine nav ?_
                     (refine aC_region ?_ <;> refine xL 13 q_assign ?_ <;> refine aL_end (nav ?_) <;> try dsimp only)
                     refine aC_loop (ι := { q : Nat × Value // q.1 ≤ b.moves.length }) (fun k => ⟨[(2, _, _), (3, _, _), (4, _, _), (7, _, _), (8, _, _), (9, _, _), (10, _, _), (11, k.1.2, pMvs (mkM (apA b.n i j a.moves ++ apB b.n i j (b.moves.take k.1.1)))), (13, .int .i64 k.1.1, pInt k.1.1)], [(2, _, _), (3, _, _), (4, _, _), (8, _, _), (302, _, _), (303, _, _), (304, _, _)]⟩) (fun k => b.moves.length - k.1.1) ⟨(0, V), Nat.zero_le _⟩ (fun a w H => H.weaken ⟨rfl, rfl, rfl, rfl, rfl, rfl, rfl, rfl, rfl, trivial⟩ ⟨rfl, rfl, rfl, rfl, rfl, rfl, rfl, trivial⟩) ?_
                     rintro ⟨⟨w, W⟩, hw⟩
                     dsimp only
                     dsimp only at hw
                     refine nav ?_
                     (refine aC_region ?_ <;> refine xL 127 q_move ?_ <;> refine xL 128 (q_fldo 3 tFl25_4_LdI) ?_ <;> (refine yL 129 (q_ldo 3 tNa23_LdI) fun v129 hv129 => ?_; cases hv129) <;> refine xL 130 (q_len tSl23_LdI) ?_ <;> refine xL 131 q_lss ?_ <;> refine aL_end (nav ?_) <;> try dsimp only)
                     (first | refine cCd ?_ ?_ | refine cC ?_ ?_) <;> intro hb131
                     · first
                       | exact Bool.noConfusion hb131
                       | (
                        obtain ⟨y, hy⟩ := get_some (show w < b.moves.length by omega)
                        obtain ⟨f0, f1, f2⟩ := mv_at hy
                        have hyb := hb.mv y (List.mem_of_getElem? hy)
                        refine nav ?_
                        (refine aC_region ?_ <;> refine xL 134 (q_fldo 3 tFl25_4_LdI) ?_ <;> (refine yL 135 (q_ldo 3 tNa23_LdI) fun v135 hv135 => ?_; cases hv135) <;> refine xL 136 q_move ?_ <;> refine xL 137 (q_idxN tSl23_LdI) ?_ <;> refine xL 138 (q_fld tFl72_0_LdI) ?_ <;> (refine yL 139 (q_ld tNa3_LbB) fun v139 hv139 => ?_; cases hv139) <;> refine xL 140 q_move ?_ <;> refine xL 141 q_eql ?_ <;> refine aL_end (nav ?_) <;> try dsimp only)
                        (first | refine cCd ?_ ?_ | refine cC ?_ ?_) <;> intro hb141
                        · first
                          | exact Bool.noConfusion hb141
                          | (
                           have hins : AF Tryz.prog 91 [pMvs (mkM (apA b.n i j a.moves ++ apB b.n i j (b.moves.take w))), .agg (cMv ⟨(i : Nat) * b.n + (j : Nat), (i : Nat) * b.n + y.dst, y.sym⟩)] (· = pMvs (mkM (apA b.n i j a.moves ++ apB b.n i j (b.moves.take (w + 1))))) := by
                            have h1 := r07insert_e (mkM (apA b.n i j a.moves ++ apB b.n i j (b.moves.take w))) ⟨(i : Nat) * b.n + (j : Nat), (i : Nat) * b.n + y.dst, y.sym⟩ (Nat.le_trans (mkM_len _) (by
                             rw [List.length_append]
                             have g1 : (apA b.n i j a.moves).length ≤ a.moves.length := by unfold apA; rw [List.length_map]; exact List.length_filter_le _ _
                             have g2 : (apB b.n i j (b.moves.take w)).length ≤ (b.moves.take w).length := by unfold apB; rw [List.length_map]; exact List.length_filter_le _ _
                             rw [List.length_take] at g2
                             omega)) (mkM_asc _)
                            rw [ins_mk, List.append_assoc, ← apB_yes hy hb141] at h1
                            exact h1
                           refine nav ?_
                           (refine aC_draw (fun i => ([] : List Nat).elem i) [3] (by kernel_rfl) ?_ <;> refine xD 0 142 rfl q_move ?_ <;> refine xD 1 143 rfl q_move ?_ <;> refine xD 2 144 rfl q_move ?_ <;> refine xD 3 145 rfl q_mul ?_ <;> refine xD 4 146 rfl q_move ?_ <;> refine xD 5 147 rfl q_add ?_ <;> refine xD 6 148 rfl q_move ?_ <;> refine xD 7 149 rfl q_move ?_ <;> refine xD 8 150 rfl q_mul ?_ <;> refine xD 9 151 rfl (q_fldo 3 tFl25_4_LdI) ?_ <;> (refine yD 10 152 rfl (q_ldo 3 tNa23_LdI) fun v152 hv152 => ?_; cases hv152) <;> refine xD 11 153 rfl q_move ?_ <;> refine xD 12 154 rfl (q_idxN tSl23_LdI) ?_ <;> refine xD 13 155 rfl (q_fld tFl72_1_LdI) ?_ <;> (refine yD 14 156 rfl (q_ld tNa3_LbB) fun v156 hv156 => ?_; cases hv156) <;> refine xD 15 157 rfl q_add ?_ <;> refine xD 16 158 rfl (q_fldo 3 tFl25_4_LdI) ?_ <;> (refine yD 17 159 rfl (q_ldo 3 tNa23_LdI) fun v159 hv159 => ?_; cases hv159) <;> refine xE 18 160 rfl q_move ?_ <;> refine xE 19 161 rfl (q_idxN tSl23_LdI) ?_ <;> refine xE 20 162 rfl (q_fld tFl72_2_LdI) ?_ <;> (refine yE 21 163 rfl (q_ld tNa3_LbB) fun v163 hv163 => ?_; cases hv163) <;> refine xE 22 164 rfl (q_build tSt72_LfD) ?_ <;> (refine aD_one 23 (by kernel_rfl) ?_) <;> (refine aW_run rfl fun w9 M9 N9 DQ back => ?_) <;> (refine cS 165 (cA Tryz.call91 (hins)) fun v165 hv165 => ?_; cases hv165) <;> refine aL_end (back _ (nrm ?_)) <;> refine xE 24 11 rfl q_assign ?_ <;> refine aD_end (by kernel_rfl) (nav ?_) <;> try dsimp only)
                           (refine aC_region ?_ <;> refine xL 132 q_move ?_ <;> refine xL 133 q_add ?_ <;> refine xL 13 q_assign ?_ <;> refine aL_end (nav ?_) <;> try dsimp only)
                           first
                            | (exact aN_again (
                                ⟨(w + 1, v165), lt_of_get hy⟩
                                ) (by dsimp only; omega) ⟨rfl, rfl, rfl, rfl, rfl, rfl, rfl, rfl, rfl, trivial⟩ ⟨rfl, rfl, rfl, rfl, rfl, rfl, rfl, trivial⟩)
                            | (exact aN_again (
                                ⟨(w + 1, W), lt_of_get hy⟩
                                ) (by dsimp only; omega) ⟨rfl, rfl, rfl, rfl, rfl, rfl, rfl, rfl, rfl, trivial⟩ ⟨rfl, rfl, rfl, rfl, rfl, rfl, rfl, trivial⟩))
                        · first
                          | exact Bool.noConfusion hb141
                          | (
                           refine aC_ent (reslot (t := 11) (p' := pMvs (mkM (apA b.n i j a.moves ++ apB b.n i j (b.moves.take (w + 1))))) rfl (by rw [apB_no hy hb141])) fun _ => ?_
                           refine nav ?_
                           (refine aC_region ?_ <;> refine xL 132 q_move ?_ <;> refine xL 133 q_add ?_ <;> refine xL 13 q_assign ?_ <;> refine aL_end (nav ?_) <;> try dsimp only)
                           first
                            | (exact aN_again (
                                ⟨(w + 1, v165), lt_of_get hy⟩
                                ) (by dsimp only; omega) ⟨rfl, rfl, rfl, rfl, rfl, rfl, rfl, rfl, rfl, trivial⟩ ⟨rfl, rfl, rfl, rfl, rfl, rfl, rfl, trivial⟩)
                            | (exact aN_again (
                                ⟨(w + 1, W), lt_of_get hy⟩
                                ) (by dsimp only; omega) ⟨rfl, rfl, rfl, rfl, rfl, rfl, rfl, rfl, rfl, trivial⟩ ⟨rfl, rfl, rfl, rfl, rfl, rfl, rfl, trivial⟩)))
                     · first
                       | exact Bool.noConfusion hb131
                       | (
                        refine aC_ent (reslot (t := 11) (p' := pMvs (ownM a b i j)) rfl (by rw [List.take_of_length_le (show b.moves.length ≤ w by omega)]; rfl)) fun _ => ?_
                        have hol := ownM_len a b i j
                        refine nav ?_
                        (refine aC_region ?_ <;> refine xL 166 (q_fldo 8 tFl25_4_LdI) ?_ <;> (refine yL 167 (q_ldo 8 tNa23_LdI) fun v167 hv167 => ?_; cases hv167) <;> refine xL 168 q_move ?_ <;> (refine s_apps 304 169 tEl23_LdR (fun h169 ho169 => ?_) (mvs_len3 (ownM a b i j)) (cMv_one (ownM a b i j)); have q169 : En.one (PV.val h169) = true := ho169; refine aL_ent (relabel (l := 169) 304 rfl rfl) fun _ => ?_; refine aL_ent (recast (l := 304) (p' := .own 72 3 (allM a b i ++ rowM a b i (j + 1)).length ((allM a b i ++ rowM a b i (j + 1)).flatMap cMv)) rfl (by rw [rowM_snoc, ← List.append_assoc]; exact mvs_app _ (allM a b i ++ rowM a b i j) (ownM a b i j))) fun _ => ?_) <;> refine xL 170 (q_fldo 8 tFl25_4_LdI) ?_ <;> refine s_st 8 tNa23_LdI tSz23_LdR ?_ <;> refine aL_end (nav ?_) <;> try dsimp only)
                        have hmore := all_more (a := a) (b := b) hilt (show j + 1 ≤ b.n.toNat from hjlt)
                        have hl7 : (allM a b i ++ rowM a b i (j + 1)).length ≤ 100000 := by rw [rowM_snoc, ← List.append_assoc, List.length_append]; omega
                        rw [hall] at hmore
                        (refine aC_region ?_ <;> refine xL 171 (q_fldo 8 tFl25_4_LdI) ?_ <;> (refine yL 172 (q_ldo 8 tNa23_LdI) fun v172 hv172 => ?_; cases hv172) <;> refine xL 173 (q_leno 304 tSl23_LdI) ?_ <;> refine xL 174 q_gtr ?_ <;> refine aL_end (nav ?_) <;> try dsimp only)
                        (first | refine cCd ?_ ?_ | refine cC ?_ ?_) <;> intro hb174
                        · first
                          | exact Bool.noConfusion hb174
                          | (
                           refine nav ?_
                           (refine aC_region ?_ <;> (refine cP 175 (cA Tryz.call75 (r07limit_e)) fun va175 vb175 hva175 hvb175 => ?_; cases hvb175) <;> refine xL 176 q_extract ?_ <;> refine xL 177 q_extract ?_ <;> refine s_sta 4 tAgg25_LdS ?_ <;> refine xL 5 q_assign ?_ <;> refine aL_end (nav ?_) <;> try dsimp only)
                           exact ret_cs (k := 5) 4 (by kernel_rfl) (Tryz.results38) rfl rfl rfl (Nat.le_of_ble_eq_true rfl) (by decide) rfl (by rw [if_pos (by omega)]; rfl))
                        · first
                          | exact Bool.noConfusion hb174
                          | (
                           refine nav ?_
                           (refine aC_region ?_ <;> refine xL 45 q_move ?_ <;> refine xL 46 q_add ?_ <;> refine xL 10 q_assign ?_ <;> refine aL_end (nav ?_) <;> try dsimp only)
                           refine aN_again (
                            ⟨(j + 1, hS3, hF3, h169), hjlt, hS3o, hF3o, ho169, by dsimp only; omega⟩
                            ) (by dsimp only; omega) ⟨rfl, rfl, rfl, rfl, rfl, rfl, rfl, trivial⟩ ⟨rfl, rfl, rfl, rfl, rfl, rfl, rfl, trivial⟩))))))
         · first
           | exact Bool.noConfusion hb44
           | (
            have hjm : j = b.n.toNat := by omega
            subst hjm
            rw [← allM_snoc] at hM2l
            refine aC_ent (recast (l := 302) (p' := .own 3 1 (allI b.n a.start b.start (i + 1)).length ((allI b.n a.start b.start (i + 1)).map pInt)) rfl (by rw [allI_snoc])) fun _ => ?_
            refine aC_ent (recast (l := 303) (p' := .own 3 1 (allI b.n a.fin b.fin (i + 1)).length ((allI b.n a.fin b.fin (i + 1)).map pInt)) rfl (by rw [allI_snoc])) fun _ => ?_
            refine aC_ent (recast (l := 304) (p' := .own 72 3 (allM a b (i + 1)).length ((allM a b (i + 1)).flatMap cMv)) rfl (by rw [allM_snoc])) fun _ => ?_
            refine nav ?_
            (refine aC_region ?_ <;> refine xL 40 q_move ?_ <;> refine xL 41 q_add ?_ <;> refine xL 9 q_assign ?_ <;> refine aL_end (nav ?_) <;> try dsimp only)
            refine aN_again (
             ⟨(i + 1, hS2, hF2, hM2), hilt, hS2o, hF2o, hM2o, hM2l⟩
             ) (by dsimp only; omega) ⟨rfl, rfl, rfl, rfl, rfl, rfl, trivial⟩ ⟨rfl, rfl, rfl, rfl, rfl, rfl, rfl, trivial⟩))
      · first
        | exact Bool.noConfusion hb39
        | (
         have hin : i = a.n.toNat := by omega
         subst hin
         rw [hall] at hMl
         have hr := hr hMl
         refine nav ?_
         refine aC_ent (freezeCell (l := 8) (l' := 302) (j := 2) rfl rfl rfl rfl) fun _ => ?_
         refine aC_ent (freezeCell (l := 8) (l' := 303) (j := 3) rfl rfl rfl rfl) fun _ => ?_
         refine aC_ent (freezeCell (l := 8) (l' := 304) (j := 4) rfl rfl rfl rfl) fun _ => ?_
         refine aC_ent (recast (l := 8) (p' := .own 25 5 1 [pInt (a.n * b.n), pInt a.syms, pInts (shI b.n a.start b.start), pInts (shI b.n a.fin b.fin), pMvs (mkM (shufA a b).moves)]) rfl (by
          rw [share_ints _ _ _ rfl, share_ints _ _ _ rfl, share_mvl _ _ _ rfl, allI_eq ha.st hb.st ha.ss hb.ss, allI_eq ha.fi hb.fi ha.fs hb.fs, hall]; rfl)) fun _ => ?_
         (refine aC_region ?_ <;> (refine yL 178 (q_ldao 8 tAgg25_LdS) fun v178 hv178 => ?_; cases hv178) <;> (refine cP 179 (cA Tryz.call92 hr) (fun va179 vb179 hva179 hvb179 => ?_) (hsh := r5.t E); cases hvb179) <;> refine xL 180 q_extract ?_ <;> refine xL 181 q_extract ?_ <;> refine s_sta 4 tAgg25_LdS ?_ <;> refine xL 5 q_assign ?_ <;> refine aL_end (nav ?_) <;> try dsimp only)
         exact ret_cs (k := 5) 4 (by kernel_rfl) (Tryz.results38) rfl rfl rfl (Nat.le_of_ble_eq_true rfl) (by decide) r5.s (by rw [if_neg (by omega)]; rfl)))
theorem r07Shuffle_e (a b : Aut) (hla : a.moves.length ≤ 1000000) (hlb : b.moves.length ≤ 1000000) : AF Tryz.prog 38 [pAut a, pAut b] (· = resW (shufX a b)) := by
 by_cases h0 : fitX a b = 0
 · obtain ⟨ha, hb, hs⟩ := fit_vok h0
   rw [shufX_fin ha hb hs h0]
   obtain ⟨p0, p1, p2, p3, p4, E, h5, h2⟩ := fin_5 (doneX (mkA (shufA a b)))
   refine (r07Shuffle_g a b hla hlb h0 h5 (E := E) fun hl => ?_).mono fun p hp => ?_
   · have hr := r07finish_e (mkA (shufA a b)) (Nat.le_trans hl (by omega))
     rw [h2] at hr; exact hr
   · rw [hp]
     by_cases h1 : 2000 < a.n * b.n
     · rw [if_pos (.inl h1), if_pos h1]; rfl
     · rw [if_neg h1]
       by_cases h3 : 20000 < (mkM (shufA a b).moves).length
       · rw [if_pos (.inr h3)]
         have : doneX (mkA (shufA a b)) = .error 13 := by
          unfold doneX
          rw [if_pos (.inr h3)]
         rw [this]; rfl
       · rw [if_neg (fun h => h.elim h1 h3)]
         exact h2.symm
 · unfold shufX
   rw [if_pos h0]
   exact r07Shuffle_bad a b _ h0 (r07given_e a b hla hlb)
theorem eq_end {α : Type} {a b : List α} (hl : a.length = b.length) (h : ∀ (j : Nat) (x y : α), a[j]? = some x → b[j]? = some y → x = y) : a = b := by
 refine List.ext_getElem? fun j => ?_
 by_cases hj : j < a.length
 · obtain ⟨x, hx⟩ := get_some hj
   obtain ⟨y, hy⟩ := get_some (show j < b.length by omega)
   rw [hx, hy, h j x y hx hy]
 · rw [List.getElem?_eq_none (by omega), List.getElem?_eq_none (by omega)]
theorem ne_at {α : Type} {a b : List α} {j : Nat} {x y : α} (hx : a[j]? = some x) (hy : b[j]? = some y) (h : x ≠ y) : a ≠ b := fun e => by
 subst e; rw [hx] at hy; exact h (Option.some.inj hy)
instance : DecidableEq Mv := fun a b => if h : eqM a b = true then .isTrue (eqM_iff.1 h) else .isFalse fun e => h (eqM_iff.2 e)
theorem eqM_dec (a b : Mv) : eqM a b = decide (a = b) := by
 by_cases h : a = b
 · rw [decide_eq_true h]; exact eqM_iff.2 h
 · rw [decide_eq_false h]
   cases e : eqM a b with
   | false => rfl
   | true => exact absurd (eqM_iff.1 e) h
theorem r07SameWord_e (a b : List Int) : AF Tryz.prog 69 [pInts a, pInts b] (· = pBool (decide (a = b))) := by
 refine AF.of_body 26 Tryz.func69 rfl Tryz.ntmps69 (Nat.le_of_ble_eq_true rfl) ?_
 intro w0 M0 vs hl hv
 obtain ⟨v0, v1, rfl⟩ := len2 hl
 clear hl hv
 refine aC_slen 0 rfl fun hlen => ?_
 refine aC_slen 1 rfl fun hlen2 => ?_
 refine nav ?_
 (refine aC_region ?_ <;> refine xL 4 q_assign ?_ <;> refine aL_end (nav ?_) <;> try dsimp only)
 (refine aC_region ?_ <;> refine xL 6 q_move ?_ <;> refine xL 7 (q_len tSl22_LbB) ?_ <;> refine xL 8 q_move ?_ <;> refine xL 9 (q_len tSl22_LbB) ?_ <;> refine xL 10 q_neq ?_ <;> refine aL_end (nav ?_) <;> try dsimp only)
 (first | refine cCd ?_ ?_ | refine cC ?_ ?_) <;> intro hb10
 · first
   | exact Bool.noConfusion hb10
   | (
    refine nav ?_
    (refine aC_region ?_ <;> refine xL 4 q_assign ?_ <;> refine aL_end (nav ?_) <;> try dsimp only)
    refine ret_shr (Tryz.results69) rfl ?_
    rw [decide_eq_false (fun e => by subst e; exact hb10 rfl)])
 · first
   | exact Bool.noConfusion hb10
   | (
    have hll : a.length = b.length := by omega
    refine nav ?_
    (refine aC_region ?_ <;> refine xL 5 q_assign ?_ <;> refine aL_end (nav ?_) <;> try dsimp only)
    refine aC_loop (ι := { k : Nat // k ≤ a.length ∧ ∀ j x y, j < k → a[j]? = some x → b[j]? = some y → x = y }) (fun k => ⟨[(0, _, _), (1, _, _), (5, .int .i64 k.1, pInt k.1)], []⟩) (fun k => a.length - k.1) ⟨0, by omega, by omega⟩ (fun a w H => H.weaken ⟨rfl, rfl, rfl, trivial⟩ trivial) ?_
    rintro ⟨k, hk, hp⟩
    dsimp only
    refine nav ?_
    (refine aC_region ?_ <;> refine xL 11 q_move ?_ <;> refine xL 12 q_move ?_ <;> refine xL 13 (q_len tSl22_LbB) ?_ <;> refine xL 14 q_lss ?_ <;> refine aL_end (nav ?_) <;> try dsimp only)
    (first | refine cCd ?_ ?_ | refine cC ?_ ?_) <;> intro hb14
    · first
      | exact Bool.noConfusion hb14
      | (
       obtain ⟨x, hx⟩ := get_some (show k < a.length by omega)
       obtain ⟨y, hy⟩ := get_some (show k < b.length by omega)
       have e1 := map_at (f := pInt) hx
       have e2 := map_at (f := pInt) hy
       refine nav ?_
       (refine aC_draw (fun i => ([] : List Nat).elem i) [] (by kernel_rfl) ?_ <;> refine xD 0 17 rfl q_move ?_ <;> refine xD 1 18 rfl q_move ?_ <;> refine xD 2 19 rfl (q_idxN tSl22_LbB) ?_ <;> (refine yD 3 20 rfl (q_ld tNa3_LbB) fun v20 hv20 => ?_; cases hv20) <;> refine xD 4 21 rfl q_move ?_ <;> refine xE 5 22 rfl q_move ?_ <;> refine xE 6 23 rfl (q_idxN tSl22_LbB) ?_ <;> (refine yE 7 24 rfl (q_ld tNa3_LbB) fun v24 hv24 => ?_; cases hv24) <;> refine xE 8 25 rfl q_neq ?_ <;> refine aD_end (by kernel_rfl) (nav ?_) <;> try dsimp only)
       (first | refine cCd ?_ ?_ | refine cC ?_ ?_) <;> intro hb25
       · first
         | exact Bool.noConfusion hb25
         | (
          refine nav ?_
          (refine aC_region ?_ <;> refine xL 4 q_assign ?_ <;> refine aL_end (nav ?_) <;> try dsimp only)
          refine ret_shr (Tryz.results69) rfl ?_
          rw [decide_eq_false (ne_at hx hy (by simpa using hb25))])
       · first
         | exact Bool.noConfusion hb25
         | (
          refine nav ?_
          (refine aC_region ?_ <;> refine xL 15 q_move ?_ <;> refine xL 16 q_add ?_ <;> refine xL 5 q_assign ?_ <;> refine aL_end (nav ?_) <;> try dsimp only)
          refine aN_again (
           ⟨k + 1, lt_of_get hx, fun j x' y' hj hx' hy' => by
            by_cases e : j = k
            · subst e; rw [hx] at hx'; rw [hy] at hy'; cases hx'; cases hy'; simpa using hb25
            · exact hp j x' y' (by omega) hx' hy'⟩
           ) (by dsimp only; omega) ⟨rfl, rfl, rfl, trivial⟩ trivial))
    · first
      | exact Bool.noConfusion hb14
      | (
       refine nav ?_
       (refine aC_region ?_ <;> refine xL 4 q_assign ?_ <;> refine aL_end (nav ?_) <;> try dsimp only)
       refine ret_shr (Tryz.results69) rfl ?_
       rw [decide_eq_true (eq_end hll fun j x y hx hy => hp j x y (by have := lt_of_get hx; omega) hx hy)]))
theorem sEqualInt_e (a b : List Int) : AF Tryz.prog 32 [pInts a, pInts b] (· = pBool (decide (a = b))) := by
 refine AF.of_body 26 Tryz.func32 rfl Tryz.ntmps32 (Nat.le_of_ble_eq_true rfl) ?_
 intro w0 M0 vs hl hv
 obtain ⟨v0, v1, rfl⟩ := len2 hl
 clear hl hv
 refine aC_slen 0 rfl fun hlen => ?_
 refine aC_slen 1 rfl fun hlen2 => ?_
 refine nav ?_
 (refine aC_region ?_ <;> refine xL 4 q_assign ?_ <;> refine aL_end (nav ?_) <;> try dsimp only)
 (refine aC_region ?_ <;> refine xL 6 q_move ?_ <;> refine xL 7 (q_len tSl22_LbB) ?_ <;> refine xL 8 q_move ?_ <;> refine xL 9 (q_len tSl22_LbB) ?_ <;> refine xL 10 q_neq ?_ <;> refine aL_end (nav ?_) <;> try dsimp only)
 (first | refine cCd ?_ ?_ | refine cC ?_ ?_) <;> intro hb10
 · first
   | exact Bool.noConfusion hb10
   | (
    refine nav ?_
    (refine aC_region ?_ <;> refine xL 4 q_assign ?_ <;> refine aL_end (nav ?_) <;> try dsimp only)
    refine ret_shr (Tryz.results32) rfl ?_
    rw [decide_eq_false (fun e => by subst e; exact hb10 rfl)])
 · first
   | exact Bool.noConfusion hb10
   | (
    have hll : a.length = b.length := by omega
    refine nav ?_
    (refine aC_region ?_ <;> refine xL 11 q_move ?_ <;> refine xL 12 (q_len tSl22_LbB) ?_ <;> refine xL 13 q_move ?_ <;> refine aL_end (nav ?_) <;> try dsimp only)
    refine aC_loop (ι := { k : Nat // k ≤ a.length ∧ ∀ j x y, j < k → a[j]? = some x → b[j]? = some y → x = y }) (fun k => ⟨[(0, _, _), (1, _, _), (12, _, _), (13, .int .i64 k.1, pInt k.1)], []⟩) (fun k => a.length - k.1) ⟨0, by omega, by omega⟩ (fun a w H => H.weaken ⟨rfl, rfl, rfl, rfl, trivial⟩ trivial) ?_
    rintro ⟨k, hk, hp⟩
    dsimp only
    refine nav ?_
    (refine aC_region ?_ <;> refine xL 14 q_lss ?_ <;> refine aL_end (nav ?_) <;> try dsimp only)
    (first | refine cCd ?_ ?_ | refine cC ?_ ?_) <;> intro hb14
    · first
      | exact Bool.noConfusion hb14
      | (
       obtain ⟨x, hx⟩ := get_some (show k < a.length by omega)
       obtain ⟨y, hy⟩ := get_some (show k < b.length by omega)
       have e1 := map_at (f := pInt) hx
       have e2 := map_at (f := pInt) hy
       refine nav ?_
       (refine aC_region ?_ <;> refine xL 15 q_move ?_ <;> refine xL 5 q_assign ?_ <;> refine aL_end (nav ?_) <;> try dsimp only)
       (refine aC_draw (fun i => ([] : List Nat).elem i) [] (by kernel_rfl) ?_ <;> refine xD 0 16 rfl q_move ?_ <;> refine xD 1 17 rfl q_move ?_ <;> refine xD 2 18 rfl (q_idxN tSl22_LbB) ?_ <;> (refine yD 3 19 rfl (q_ld tNa3_LbB) fun v19 hv19 => ?_; cases hv19) <;> refine xD 4 20 rfl q_move ?_ <;> refine xE 5 21 rfl q_move ?_ <;> refine xE 6 22 rfl (q_idxN tSl22_LbB) ?_ <;> (refine yE 7 23 rfl (q_ld tNa3_LbB) fun v23 hv23 => ?_; cases hv23) <;> refine xE 8 24 rfl q_neq ?_ <;> refine aD_end (by kernel_rfl) (nav ?_) <;> try dsimp only)
       (first | refine cCd ?_ ?_ | refine cC ?_ ?_) <;> intro hb24
       · first
         | exact Bool.noConfusion hb24
         | (
          refine nav ?_
          (refine aC_region ?_ <;> refine xL 4 q_assign ?_ <;> refine aL_end (nav ?_) <;> try dsimp only)
          refine ret_shr (Tryz.results32) rfl ?_
          rw [decide_eq_false (ne_at hx hy (by simpa using hb24))])
       · first
         | exact Bool.noConfusion hb24
         | (
          refine nav ?_
          (refine aC_region ?_ <;> refine xL 25 q_add ?_ <;> refine xL 13 q_move ?_ <;> refine aL_end (nav ?_) <;> try dsimp only)
          refine aN_again (
           ⟨k + 1, lt_of_get hx, fun j x' y' hj hx' hy' => by
            by_cases e : j = k
            · subst e; rw [hx] at hx'; rw [hy] at hy'; cases hx'; cases hy'; simpa using hb24
            · exact hp j x' y' (by omega) hx' hy'⟩
           ) (by dsimp only; omega) ⟨rfl, rfl, rfl, rfl, trivial⟩ trivial))
    · first
      | exact Bool.noConfusion hb14
      | (
       refine nav ?_
       (refine aC_region ?_ <;> refine xL 4 q_assign ?_ <;> refine aL_end (nav ?_) <;> try dsimp only)
       refine ret_shr (Tryz.results32) rfl ?_
       rw [decide_eq_true (eq_end hll fun j x y hx hy => hp j x y (by have := lt_of_get hx; omega) hx hy)]))
theorem sEqualMv_e (a b : List Mv) : AF Tryz.prog 54 [pMvs a, pMvs b] (· = pBool (decide (a = b))) := by
 refine AF.of_body 26 Tryz.func54 rfl Tryz.ntmps54 (Nat.le_of_ble_eq_true rfl) ?_
 intro w0 M0 vs hl hv
 obtain ⟨v0, v1, rfl⟩ := len2 hl
 clear hl hv
 refine aC_slen 0 rfl fun hlen => ?_
 refine aC_slen 1 rfl fun hlen2 => ?_
 refine nav ?_
 (refine aC_region ?_ <;> refine xL 4 q_assign ?_ <;> refine aL_end (nav ?_) <;> try dsimp only)
 (refine aC_region ?_ <;> refine xL 6 q_move ?_ <;> refine xL 7 (q_len tSl23_LdI) ?_ <;> refine xL 8 q_move ?_ <;> refine xL 9 (q_len tSl23_LdI) ?_ <;> refine xL 10 q_neq ?_ <;> refine aL_end (nav ?_) <;> try dsimp only)
 (first | refine cCd ?_ ?_ | refine cC ?_ ?_) <;> intro hb10
 · first
   | exact Bool.noConfusion hb10
   | (
    refine nav ?_
    (refine aC_region ?_ <;> refine xL 4 q_assign ?_ <;> refine aL_end (nav ?_) <;> try dsimp only)
    refine ret_shr (Tryz.results54) rfl ?_
    rw [decide_eq_false (fun e => by subst e; exact hb10 rfl)])
 · first
   | exact Bool.noConfusion hb10
   | (
    have hll : a.length = b.length := by omega
    refine nav ?_
    (refine aC_region ?_ <;> refine xL 11 q_move ?_ <;> refine xL 12 (q_len tSl23_LdI) ?_ <;> refine xL 13 q_move ?_ <;> refine aL_end (nav ?_) <;> try dsimp only)
    refine aC_loop (ι := { k : Nat // k ≤ a.length ∧ ∀ j x y, j < k → a[j]? = some x → b[j]? = some y → x = y }) (fun k => ⟨[(0, _, _), (1, _, _), (12, _, _), (13, .int .i64 k.1, pInt k.1)], []⟩) (fun k => a.length - k.1) ⟨0, by omega, by omega⟩ (fun a w H => H.weaken ⟨rfl, rfl, rfl, rfl, trivial⟩ trivial) ?_
    rintro ⟨k, hk, hp⟩
    dsimp only
    refine nav ?_
    (refine aC_region ?_ <;> refine xL 14 q_lss ?_ <;> refine aL_end (nav ?_) <;> try dsimp only)
    (first | refine cCd ?_ ?_ | refine cC ?_ ?_) <;> intro hb14
    · first
      | exact Bool.noConfusion hb14
      | (
       obtain ⟨x, hx⟩ := get_some (show k < a.length by omega)
       obtain ⟨y, hy⟩ := get_some (show k < b.length by omega)
       have e1 := flat_drop cMv_len a k x hx
       have e2 := flat_fit cMv_len hx
       have e3 := flat_drop cMv_len b k y hy
       have e4 := flat_fit cMv_len hy
       refine nav ?_
       (refine aC_region ?_ <;> refine xL 15 q_move ?_ <;> refine xL 5 q_assign ?_ <;> refine aL_end (nav ?_) <;> try dsimp only)
       (refine aC_draw (fun i => ([] : List Nat).elem i) [] (by kernel_rfl) ?_ <;> refine xD 0 16 rfl q_move ?_ <;> refine xD 1 17 rfl q_move ?_ <;> refine xD 2 18 rfl (q_idxN tSl23_LdI) ?_ <;> (refine yD 3 19 rfl (q_lda tAgg72_LdI) fun v19 hv19 => ?_; cases hv19) <;> refine xD 4 20 rfl q_move ?_ <;> refine xE 5 21 rfl q_move ?_ <;> refine xE 6 22 rfl (q_idxN tSl23_LdI) ?_ <;> (refine yE 7 23 rfl (q_lda tAgg72_LdI) fun v23 hv23 => ?_; cases hv23) <;> refine xE 8 24 rfl ((q_neS (us := vMv x) (us' := vMv y) uMvS hMvS gMvS (eqMv_runG x y) rfl rfl)) ?_ <;> refine aD_end (by kernel_rfl) (nav ?_) <;> try dsimp only)
       (first | refine cCd ?_ ?_ | refine cC ?_ ?_) <;> intro hb24
       · first
         | exact Bool.noConfusion hb24
         | (
          refine nav ?_
          (refine aC_region ?_ <;> refine xL 4 q_assign ?_ <;> refine aL_end (nav ?_) <;> try dsimp only)
          refine ret_shr (Tryz.results54) rfl ?_
          rw [decide_eq_false (ne_at hx hy (by
           have h := hb24
           rw [eqM_dec] at h
           simpa using h))])
       · first
         | exact Bool.noConfusion hb24
         | (
          refine nav ?_
          (refine aC_region ?_ <;> refine xL 25 q_add ?_ <;> refine xL 13 q_move ?_ <;> refine aL_end (nav ?_) <;> try dsimp only)
          refine aN_again (
           ⟨k + 1, lt_of_get hx, fun j x' y' hj hx' hy' => by
            by_cases e : j = k
            · subst e; rw [hx] at hx'; rw [hy] at hy'; cases hx'; cases hy'
              have h := hb24
              rw [eqM_dec] at h
              simpa using h
            · exact hp j x' y' (by omega) hx' hy'⟩
           ) (by dsimp only; omega) ⟨rfl, rfl, rfl, rfl, trivial⟩ trivial))
    · first
      | exact Bool.noConfusion hb14
      | (
       refine nav ?_
       (refine aC_region ?_ <;> refine xL 4 q_assign ?_ <;> refine aL_end (nav ?_) <;> try dsimp only)
       refine ret_shr (Tryz.results54) rfl ?_
       rw [decide_eq_true (eq_end hll fun j x y hx hy => hp j x y (by have := lt_of_get hx; omega) hx hy)]))
theorem sEqualFuncInts_e (a b : List (List Int)) : AF Tryz.prog 55 [pIntss a, pIntss b, .fn 32 []] (· = pBool (decide (a = b))) := by
 refine AF.of_body 32 Tryz.func55 rfl Tryz.ntmps55 (Nat.le_of_ble_eq_true rfl) ?_
 intro w0 M0 vs hl hv
 obtain ⟨v0, v1, v2, rfl⟩ := len3 hl
 clear hl hv
 refine aC_slen 0 rfl fun hlen => ?_
 refine aC_slen 1 rfl fun hlen2 => ?_
 refine nav ?_
 (refine aC_region ?_ <;> refine xL 6 q_assign ?_ <;> refine aL_end (nav ?_) <;> try dsimp only)
 (refine aC_region ?_ <;> refine xL 10 q_move ?_ <;> refine xL 11 (q_len tSl28_LdS) ?_ <;> refine xL 12 q_move ?_ <;> refine xL 13 (q_len tSl28_LdS) ?_ <;> refine xL 14 q_neq ?_ <;> refine aL_end (nav ?_) <;> try dsimp only)
 (first | refine cCd ?_ ?_ | refine cC ?_ ?_) <;> intro hb14
 · first
   | exact Bool.noConfusion hb14
   | (
    refine nav ?_
    (refine aC_region ?_ <;> refine xL 6 q_assign ?_ <;> refine aL_end (nav ?_) <;> try dsimp only)
    refine ret_shr (Tryz.results55) rfl ?_
    rw [decide_eq_false (fun e => by subst e; exact hb14 rfl)])
 · first
   | exact Bool.noConfusion hb14
   | (
    have hll : a.length = b.length := by omega
    refine nav ?_
    (refine aC_region ?_ <;> refine xL 15 q_move ?_ <;> refine xL 16 (q_len tSl28_LdS) ?_ <;> refine xL 17 q_move ?_ <;> refine aL_end (nav ?_) <;> try dsimp only)
    refine aC_loop (ι := { k : Nat // k ≤ a.length ∧ ∀ j x y, j < k → a[j]? = some x → b[j]? = some y → x = y }) (fun k => ⟨[(0, _, _), (1, _, _), (2, _, _), (15, _, _), (16, _, _), (17, .int .i64 k.1, pInt k.1)], []⟩) (fun k => a.length - k.1) ⟨0, by omega, by omega⟩ (fun a w H => H.weaken ⟨rfl, rfl, rfl, rfl, rfl, rfl, trivial⟩ trivial) ?_
    rintro ⟨k, hk, hp⟩
    dsimp only
    refine nav ?_
    (refine aC_region ?_ <;> refine xL 18 q_lss ?_ <;> refine aL_end (nav ?_) <;> try dsimp only)
    (first | refine cCd ?_ ?_ | refine cC ?_ ?_) <;> intro hb18
    · first
      | exact Bool.noConfusion hb18
      | (
       obtain ⟨x, hx⟩ := get_some (show k < a.length by omega)
       obtain ⟨y, hy⟩ := get_some (show k < b.length by omega)
       have e1 := map_at (f := pInts) hx
       have e2 := map_at (f := pInts) hy
       refine nav ?_
       (refine aC_region ?_ <;> refine xL 19 q_move ?_ <;> refine xL 20 (q_idxN tSl28_LdS) ?_ <;> (refine yL 21 (q_ld tNa22_LdI) fun v21 hv21 => ?_; cases hv21) <;> refine xL 7 q_assign ?_ <;> refine xL 8 q_assign ?_ <;> refine aL_end (nav ?_) <;> try dsimp only)
       (refine aC_region ?_ <;> refine xL 22 q_move ?_ <;> refine xL 23 q_move ?_ <;> refine xL 24 (q_idxN tSl28_LdS) ?_ <;> (refine yL 25 (q_ld tNa22_LdI) fun v25 hv25 => ?_; cases hv25) <;> refine xL 9 q_assign ?_ <;> refine aL_end (nav ?_) <;> try dsimp only)
       (refine aC_region ?_ <;> refine xL 26 q_move ?_ <;> refine xL 27 q_move ?_ <;> refine xL 28 q_move ?_ <;> (refine cS 29 (callF (f := 32) (ps := []) rfl ⟨_, rfl⟩ (Tryz.call32) rfl (sEqualInt_e x y)) fun v29 hv29 => ?_; cases hv29) <;> refine xL 30 q_not ?_ <;> refine aL_end (nav ?_) <;> try dsimp only)
       (first | refine cCd ?_ ?_ | refine cC ?_ ?_) <;> intro hb30
       · first
         | exact Bool.noConfusion hb30
         | (
          refine nav ?_
          (refine aC_region ?_ <;> refine xL 6 q_assign ?_ <;> refine aL_end (nav ?_) <;> try dsimp only)
          refine ret_shr (Tryz.results55) rfl ?_
          rw [decide_eq_false (ne_at hx hy (by simpa using hb30))])
       · first
         | exact Bool.noConfusion hb30
         | (
          refine nav ?_
          (refine aC_region ?_ <;> refine xL 31 q_add ?_ <;> refine xL 17 q_move ?_ <;> refine aL_end (nav ?_) <;> try dsimp only)
          refine aN_again (
           ⟨k + 1, lt_of_get hx, fun j x' y' hj hx' hy' => by
            by_cases e : j = k
            · subst e; rw [hx] at hx'; rw [hy] at hy'; cases hx'; cases hy'; simpa using hb30
            · exact hp j x' y' (by omega) hx' hy'⟩
           ) (by dsimp only; omega) ⟨rfl, rfl, rfl, rfl, rfl, rfl, trivial⟩ trivial))
    · first
      | exact Bool.noConfusion hb18
      | (
       refine nav ?_
       (refine aC_region ?_ <;> refine xL 6 q_assign ?_ <;> refine aL_end (nav ?_) <;> try dsimp only)
       refine ret_shr (Tryz.results55) rfl ?_
       rw [decide_eq_true (eq_end hll fun j x y hx hy => hp j x y (by have := lt_of_get hx; omega) hx hy)]))
def insI (x : Int) : List Int → List Int
 | [] => [x]
 | y :: l => if x ≤ y then x :: y :: l else y :: insI x l
def srtI : List Int → List Int
 | [] => []
 | x :: l => insI x (srtI l)
theorem insI_perm (x : Int) : ∀ l, (insI x l).Perm (x :: l)
 | [] => .refl _
 | y :: l => by
   unfold insI
   split
   · exact .refl _
   · exact ((insI_perm x l).cons y).trans (.swap _ _ _)
theorem srtI_perm : ∀ l, (srtI l).Perm l
 | [] => .refl _
 | x :: l => (insI_perm x _).trans ((srtI_perm l).cons x)
theorem insI_pw (x : Int) : ∀ l : List Int, l.Pairwise (· ≤ ·) → (insI x l).Pairwise (· ≤ ·)
 | [], _ => by simp [insI]
 | y :: l, h => by
   have h' := List.pairwise_cons.1 h
   unfold insI
   split
   · rename_i hxy
     refine List.pairwise_cons.2 ⟨fun z hz => ?_, h⟩
     rcases List.mem_cons.1 hz with rfl | hz
     · exact hxy
     · exact Int.le_trans hxy (h'.1 z hz)
   · rename_i hxy
     refine List.pairwise_cons.2 ⟨fun z hz => ?_, insI_pw x l h'.2⟩
     rcases List.mem_cons.1 ((insI_perm x l).mem_iff.1 hz) with rfl | hz
     · omega
     · exact h'.1 z hz
theorem srtI_pw : ∀ l, (srtI l).Pairwise (· ≤ ·)
 | [] => .nil
 | x :: l => insI_pw x _ (srtI_pw l)
theorem sorted_ext : ∀ {l m : List Int}, l.Pairwise (· ≤ ·) → m.Pairwise (· ≤ ·) → l.Perm m → l = m
 | [], [], _, _, _ => rfl
 | [], y :: m, _, _, h => by have := h.length_eq; simp at this
 | x :: l, [], _, _, h => by have := h.length_eq; simp at this
 | x :: l, y :: m, hl, hm, h => by
   have hl' := List.pairwise_cons.1 hl
   have hm' := List.pairwise_cons.1 hm
   have h1 : x ≤ y := by
    rcases List.mem_cons.1 (h.mem_iff.2 (List.mem_cons_self ..)) with e | e
    · omega
    · exact hl'.1 y e
   have h2 : y ≤ x := by
    rcases List.mem_cons.1 (h.mem_iff.1 (List.mem_cons_self ..)) with e | e
    · omega
    · exact hm'.1 x e
   obtain rfl : x = y := by omega
   rw [sorted_ext hl'.2 hm'.2 ((List.perm_cons x).1 h)]
def closI (a : Aut) (l : List Int) : List Int := srtI (clAt a l a.n.toNat)
theorem closI_eq (a : Aut) (l : List Int) : closL a l = closI a l := by
 unfold closL closI
 have h1 : ((clAt a l a.n.toNat).mergeSort fun x y => decide (x ≤ y)).Pairwise (fun x y => decide (x ≤ y) = true) := List.pairwise_mergeSort (fun a b c h1 h2 => by simp only [decide_eq_true_eq] at *; omega) (fun a b => by simp only [Bool.or_eq_true, decide_eq_true_eq]; omega) _
 exact sorted_ext (h1.imp fun h => by simpa using h) (srtI_pw _) ((List.mergeSort_perm _ _).trans (srtI_perm _).symm)
def kidI (a : Aut) (far : List Int) (n : Int) (p : Pf) (c : Nat) : List Pf := if (nearL (closI a (leads a c p.2)) far (n - 1)).length = 0 then [] else [(p.1 ++ [(c : Int)], nearL (closI a (leads a c p.2)) far (n - 1))]
def lvI (a : Aut) (far : List Int) (n : Nat) : Nat → List Pf
 | 0 => [([], nearL (closI a a.start) far n)]
 | k + 1 => (lvI a far n k).flatMap fun p => (List.range a.syms.toNat).flatMap (kidI a far ((n : Int) - k) p)
theorem lvI_eq (a : Aut) (n : Nat) : ∀ k, lvP a n k = lvI a (farL a) n k
 | 0 => by rw [lvP, lvI, closI_eq]
 | k + 1 => by
   rw [lvP, lvI, lvI_eq a n k]
   have : ∀ p, kidsP a ((n : Int) - k) p = (List.range a.syms.toNat).flatMap (kidI a (farL a) ((n : Int) - k) p) := fun p => by
    unfold kidsP
    have : kidP a ((n : Int) - k) p = kidI a (farL a) ((n : Int) - k) p := by
     funext c
     unfold kidP kidI nextL
     rw [closI_eq]
    rw [this]
   exact flatMap_ext fun p _ => this p
def sumI (a : Aut) (far : List Int) (n k : Nat) : List (List Int) := (List.range k).flatMap fun i => outP a (lvI a far n i)
theorem sumI_eq (a : Aut) (n k : Nat) : sumP a n k = sumI a (farL a) n k := by
 unfold sumP sumI
 simp only [lvI_eq]
def bigI (a : Aut) (far : List Int) (n : Nat) : Bool := (List.range (n + 1)).any (fun k => decide (2000 < (lvI a far n (k + 1)).length)) || decide (2000 < (sumI a far n (n + 1)).length)
theorem bigI_eq (a : Aut) (n : Nat) : bigP a n ↔ bigI a (farL a) n = true := by
 unfold bigP bigI
 rw [sumI_eq]
 simp only [Bool.or_eq_true, List.any_eq_true, List.mem_range, decide_eq_true_eq, lvI_eq]
 constructor
 · rintro (⟨k, h1, h2⟩ | h)
   · exact .inl ⟨k, by omega, h2⟩
   · exact .inr h
 · rintro (⟨k, h1, h2⟩ | h)
   · exact .inl ⟨k, by omega, h2⟩
   · exact .inr h
def subI (a : Aut) : Srch (List Int) (List Int) := ⟨id, 2000, a.syms.toNat, fun _ l s => closI a (leads a (s : Nat) l)⟩
theorem subI_eq (a : Aut) : subW a = subI a := by
 unfold subW subI
 congr 1
 funext _ l s
 unfold nextL
 rw [closI_eq]
theorem subT_of {a : Aut} {q : List (List Int) × List (List Nat)} (i : Nat) (h : (subI a).upto (closI a a.start) i = some q) (hl : q.1.length ≤ i) (hi : i ≤ 2000) : subT a = some ⟨a.syms.toNat, q.2, q.1.map (accB a)⟩ := by
 unfold subT
 rw [subI_eq, closI_eq, Srch.all_some h hl hi]; rfl
theorem redX_of {a : Aut} {q : List (List Int) × List (List Nat)} {A : Aut} (i : Nat) (h : (subI a).upto (closI a a.start) i = some q) (hl : q.1.length ≤ i) (hi : i ≤ 2000) (hA : leastT ⟨a.syms.toNat, q.2, q.1.map (accB a)⟩ = some A) : redX a = .ok A := by
 unfold redX
 rw [subT_of i h hl hi]
 dsimp only
 rw [hA]; rfl
theorem bothX_of {a b A B : Aut} {q : List ((Nat × Nat) × (Int × Int)) × List (List Nat)} (i : Nat) (ha : redX a = .ok A) (hb : redX b = .ok B) (h : (prodW A B).upto ((0, 0), (-1, -1)) i = some q) (hl : q.1.length ≤ i) (hi : i ≤ 2000) : bothX a b = .ok (A, B, q) := by
 unfold bothX
 rw [ha, hb]
 dsimp only
 rw [show prodQ A B = some q from Srch.all_some h hl hi]
theorem cmpX_of {a b A B : Aut} {q : List ((Nat × Nat) × (Int × Int)) × List (List Nat)} {op : Int} (hf : fitX a b = 0) (h : bothX a b = .ok (A, B, q)) : cmpX a b op = ((cmpR A B op q).1, (cmpR A B op q).2, 0) := by
 unfold cmpX
 rw [if_neg (fun h => h hf), h]
def ex07 : Aut := ⟨2, 2, [0], [1], [⟨0, 0, 0⟩, ⟨0, 0, 1⟩, ⟨0, 1, 1⟩]⟩
def ex07M : Aut := ⟨2, 2, [0], [1], [⟨0, 0, 0⟩, ⟨0, 1, 1⟩, ⟨1, 0, 0⟩, ⟨1, 1, 1⟩]⟩
theorem ex07_ok : autOk ex07 = true := by kernel_rfl
theorem ex07_sub : (subI ex07).upto (closI ex07 ex07.start) 2 = some ([[0], [0, 1]], [[0, 1], [0, 1]]) := by kernel_rfl
theorem ex07_min : leastT ⟨2, [[0, 1], [0, 1]], [false, true]⟩ = some ex07M := by kernel_rfl
theorem ex07_red : redX ex07 = .ok ex07M := redX_of 2 ex07_sub (by decide) (by decide) ex07_min
theorem ex07_minX : minX ex07 = .ok ex07M := by unfold minX; rw [ex07_ok, if_pos rfl, ex07_red]
theorem ex07_subM : (subI ex07M).upto (closI ex07M ex07M.start) 2 = some ([[0], [1]], [[0, 1], [0, 1]]) := by kernel_rfl
theorem ex07_redM : redX ex07M = .ok ex07M := redX_of 2 ex07_subM (by decide) (by decide) ex07_min
theorem tSl75_LfT : SlT Tryz.prog 75 25 5 = true := by kernel_rfl
theorem aut_ext {a b : Aut} (h1 : a.n = b.n) (h2 : a.syms = b.syms) (h3 : a.start = b.start) (h4 : a.fin = b.fin) (h5 : a.moves = b.moves) : a = b := by
 cases a; cases b; simp_all
instance : DecidableEq Aut := fun a b => if h : a.n = b.n ∧ a.syms = b.syms ∧ a.start = b.start ∧ a.fin = b.fin ∧ a.moves = b.moves then .isTrue (aut_ext h.1 h.2.1 h.2.2.1 h.2.2.2.1 h.2.2.2.2) else .isFalse fun e => h (by subst e; exact ⟨rfl, rfl, rfl, rfl, rfl⟩)
set_option maxHeartbeats 1000000 in
theorem r07Same_e (a b : Aut) (hm : a.moves.length ≤ 1000000) (hm' : b.moves.length ≤ 1000000) : AF Tryz.prog 20 [pAut a, pAut b] (· = pBool (decide (a = b))) := by
 refine AF.of_body 61 Tryz.func20 rfl Tryz.ntmps20 (Nat.le_of_ble_eq_true rfl) ?_
 intro w0 M0 vs hl hv
 obtain ⟨v0, v1, rfl⟩ := len2 hl
 clear hl hv
 refine nav ?_
 (refine aC_region ?_ <;> refine s_boxa 2 5 fun h2 => ?_ <;> refine s_boxa 3 5 fun h3 => ?_ <;> refine xL 4 q_assign ?_ <;> refine aL_end (nav ?_) <;> try dsimp only)
 (refine aC_region ?_ <;> refine xL 6 (q_fldo 2 tFl25_0_LdI) ?_ <;> (refine yL 7 (q_ldo 2 tNa3_LbB) fun v7 hv7 => ?_; cases hv7) <;> refine xL 8 (q_fldo 3 tFl25_0_LdI) ?_ <;> (refine yL 9 (q_ldo 3 tNa3_LbB) fun v9 hv9 => ?_; cases hv9) <;> refine xL 10 q_neq ?_ <;> refine xL 11 q_move ?_ <;> (refine bLd 11 (fun hb11 => ?_) (fun hb11 => ?_) <;> (first | refine kL 12 ?_ | refine xL 12 (q_fldo 2 tFl25_1_LdI) ?_)) <;> (first | refine kL 13 ?_ | (refine yL 13 (q_ldo 2 tNa3_LbB) fun v13 hv13 => ?_; cases hv13)) <;> (first | refine kL 14 ?_ | refine xL 14 (q_fldo 3 tFl25_1_LdI) ?_) <;> (first | refine kL 15 ?_ | (refine yL 15 (q_ldo 3 tNa3_LbB) fun v15 hv15 => ?_; cases hv15)) <;> (first | refine kL 16 ?_ | refine xL 16 q_neq ?_) <;> refine xL 17 q_pick ?_ <;> refine xL 18 q_move ?_ <;> (first | refine kL 19 ?_ | (refine bLd 18 (fun hb18 => ?_) (fun hb18 => ?_) <;> (first | refine kL 19 ?_ | refine xL 19 (q_fldo 2 tFl25_2_LdI) ?_))) <;> (first | refine kL 20 ?_ | (refine yL 20 (q_ldo 2 tNa22_LdI) fun v20 hv20 => ?_; cases hv20)) <;> (first | refine kL 21 ?_ | refine xL 21 (q_fldo 3 tFl25_2_LdI) ?_) <;> (first | refine kL 22 ?_ | (refine yL 22 (q_ldo 3 tNa22_LdI) fun v22 hv22 => ?_; cases hv22)) <;> (first | refine kL 23 ?_ | (refine cS 23 (cA Tryz.call69 (r07SameWord_e a.start b.start)) fun v23 hv23 => ?_; cases hv23)) <;> (first | refine kL 24 ?_ | refine xL 24 q_not ?_) <;> refine xL 25 q_pick ?_ <;> refine xL 26 q_move ?_ <;> (first | refine kL 27 ?_ | (refine bL 26 (fun hb26 => ?_) (fun hb26 => ?_) <;> (first | refine kL 27 ?_ | refine xL 27 (q_fldo 2 tFl25_3_LdI) ?_))) <;> (first | refine kL 28 ?_ | (refine yL 28 (q_ldo 2 tNa22_LdI) fun v28 hv28 => ?_; cases hv28)) <;> (first | refine kL 29 ?_ | refine xL 29 (q_fldo 3 tFl25_3_LdI) ?_) <;> (first | refine kL 30 ?_ | (refine yL 30 (q_ldo 3 tNa22_LdI) fun v30 hv30 => ?_; cases hv30)) <;> (first | refine kL 31 ?_ | (refine cS 31 (cA Tryz.call69 (r07SameWord_e a.fin b.fin)) fun v31 hv31 => ?_; cases hv31)) <;> (first | refine kL 32 ?_ | refine xL 32 q_not ?_) <;> refine xL 33 q_pick ?_ <;> refine xL 34 q_move ?_ <;> (first | refine kL 35 ?_ | (refine bL 34 (fun hb34 => ?_) (fun hb34 => ?_) <;> (first | refine kL 35 ?_ | refine xL 35 (q_fldo 2 tFl25_4_LdI) ?_))) <;> (first | refine kL 36 ?_ | (refine yL 36 (q_ldo 2 tNa23_LdI) fun v36 hv36 => ?_; cases hv36)) <;> (first | refine kL 37 ?_ | refine xL 37 (q_len tSl23_LdI) ?_) <;> (first | refine kL 38 ?_ | refine xL 38 (q_fldo 3 tFl25_4_LdI) ?_) <;> (first | refine kL 39 ?_ | (refine yL 39 (q_ldo 3 tNa23_LdI) fun v39 hv39 => ?_; cases hv39)) <;> (first | refine kL 40 ?_ | refine xL 40 (q_len tSl23_LdI) ?_) <;> (first | refine kL 41 ?_ | refine xL 41 q_neq ?_) <;> refine xL 42 q_pick ?_ <;> refine aL_end (nav ?_) <;> try dsimp only) <;> (
  (first | refine cCd ?_ ?_ | refine cC ?_ ?_) <;> intro hb42
  · first
    | exact Bool.noConfusion hb42
    | (
     refine nav ?_
     (refine aC_region ?_ <;> refine xL 4 q_assign ?_ <;> refine aL_end (nav ?_) <;> try dsimp only)
     refine ret_shr (Tryz.results20) rfl ?_
     rw [decide_eq_false (fun e => by
      subst e
      first
       | exact absurd rfl hb42
       | (simp at hb34; done)
       | (simp at hb26; done)
       | exact absurd rfl hb18
       | exact absurd rfl hb11)])
  · first
    | exact Bool.noConfusion hb42
    | (
     have q3 : a.start = b.start := by simpa using hb26
     have q4 : a.fin = b.fin := by simpa using hb34
     have hll : a.moves.length = b.moves.length := by omega
     have q1 : a.n = b.n := by omega
     have q2 : a.syms = b.syms := by omega
     refine nav ?_
     (refine aC_region ?_ <;> refine xL 5 q_assign ?_ <;> refine aL_end (nav ?_) <;> try dsimp only)
     refine aC_loop (ι := { k : Nat // k ≤ a.moves.length ∧ ∀ j x y, j < k → a.moves[j]? = some x → b.moves[j]? = some y → x = y }) (fun k => ⟨[(2, _, _), (3, _, _), (5, .int .i64 k.1, pInt k.1)], [(2, _, _), (3, _, _)]⟩) (fun k => a.moves.length - k.1) ⟨0, Nat.zero_le _, by omega⟩ (fun a w H => H.weaken ⟨rfl, rfl, rfl, trivial⟩ ⟨rfl, rfl, trivial⟩) ?_
     rintro ⟨k, hk, hp⟩
     dsimp only
     refine nav ?_
     (refine aC_region ?_ <;> refine xL 43 q_move ?_ <;> refine xL 44 (q_fldo 2 tFl25_4_LdI) ?_ <;> (refine yL 45 (q_ldo 2 tNa23_LdI) fun v45 hv45 => ?_; cases hv45) <;> refine xL 46 (q_len tSl23_LdI) ?_ <;> refine xL 47 q_lss ?_ <;> refine aL_end (nav ?_) <;> try dsimp only)
     (first | refine cCd ?_ ?_ | refine cC ?_ ?_) <;> intro hb47
     · first
       | exact Bool.noConfusion hb47
       | (
        obtain ⟨x, hx⟩ := get_some (show k < a.moves.length by omega)
        obtain ⟨y, hy⟩ := get_some (show k < b.moves.length by omega)
        have e1 := flat_drop cMv_len a.moves k x hx
        have e2 := flat_fit cMv_len hx
        have e3 := flat_drop cMv_len b.moves k y hy
        have e4 := flat_fit cMv_len hy
        refine nav ?_
        (refine aC_draw (fun i => ([] : List Nat).elem i) [2, 3] (by kernel_rfl) ?_ <;> refine xD 0 50 rfl (q_fldo 2 tFl25_4_LdI) ?_ <;> (refine yD 1 51 rfl (q_ldo 2 tNa23_LdI) fun v51 hv51 => ?_; cases hv51) <;> refine xD 2 52 rfl q_move ?_ <;> refine xD 3 53 rfl (q_idxN tSl23_LdI) ?_ <;> (refine yD 4 54 rfl (q_lda tAgg72_LdI) fun v54 hv54 => ?_; cases hv54) <;> refine xD 5 55 rfl (q_fldo 3 tFl25_4_LdI) ?_ <;> (refine yD 6 56 rfl (q_ldo 3 tNa23_LdI) fun v56 hv56 => ?_; cases hv56) <;> refine xE 7 57 rfl q_move ?_ <;> refine xE 8 58 rfl (q_idxN tSl23_LdI) ?_ <;> (refine yE 9 59 rfl (q_lda tAgg72_LdI) fun v59 hv59 => ?_; cases hv59) <;> refine xE 10 60 rfl ((q_neS (us := vMv x) (us' := vMv y) uMvS hMvS gMvS (eqMv_runG x y) rfl rfl)) ?_ <;> refine aD_end (by kernel_rfl) (nav ?_) <;> try dsimp only)
        (first | refine cCd ?_ ?_ | refine cC ?_ ?_) <;> intro hb60
        · first
          | exact Bool.noConfusion hb60
          | (
           refine nav ?_
           (refine aC_region ?_ <;> refine xL 4 q_assign ?_ <;> refine aL_end (nav ?_) <;> try dsimp only)
           refine ret_shr (Tryz.results20) rfl ?_
           have hne : a.moves ≠ b.moves := ne_at hx hy (by
            have h := hb60
            rw [eqM_dec] at h
            simpa using h)
           rw [decide_eq_false (fun e => hne (by rw [e]))])
        · first
          | exact Bool.noConfusion hb60
          | (
           refine nav ?_
           (refine aC_region ?_ <;> refine xL 48 q_move ?_ <;> refine xL 49 q_add ?_ <;> refine xL 5 q_assign ?_ <;> refine aL_end (nav ?_) <;> try dsimp only)
           refine aN_again (
            ⟨k + 1, lt_of_get hx, fun j x' y' hj hx' hy' => by
             by_cases e : j = k
             · subst e; rw [hx] at hx'; rw [hy] at hy'; cases hx'; cases hy'
               have h := hb60
               rw [eqM_dec] at h
               simpa using h
             · exact hp j x' y' (by omega) hx' hy'⟩
            ) (by dsimp only; omega) ⟨rfl, rfl, rfl, trivial⟩ ⟨rfl, rfl, trivial⟩))
     · first
       | exact Bool.noConfusion hb47
       | (
        refine nav ?_
        (refine aC_region ?_ <;> refine xL 4 q_assign ?_ <;> refine aL_end (nav ?_) <;> try dsimp only)
        refine ret_shr (Tryz.results20) rfl ?_
        rw [decide_eq_true (aut_ext q1 q2 q3 q4 (eq_end hll fun j x y hx hy => hp j x y (by have := lt_of_get hx; omega) hx hy))])))
def cAut (a : Aut) : List PV := [pInt a.n, pInt a.syms, pInts a.start, pInts a.fin, pMvs a.moves]
theorem cAut_len (a : Aut) : (cAut a).length = 5 := rfl
def greatA (a : Aut) : Bool := (decide (60 < a.n) && decide (a.n ≤ 2000)) || (decide (8 < a.syms) && decide (a.syms ≤ 40)) || decide (400 < (a.moves.length : Int)) || decide (80 < (a.start.length : Int)) || decide (80 < (a.fin.length : Int))
theorem indexFuncAut_e (f : Nat) (caps : List PV) (p : Aut → Bool) (l : List Aut) (hc : ∀ args w, (callFunc f args).run Tryz.prog w = .ok (.enter f args) w) (hf : ∀ s ∈ l, AF Tryz.prog f (.agg (cAut s) :: caps) (· = pBool (p s))) : AF Tryz.prog 97 [.sl l.length (l.flatMap cAut), .fn f caps] (· = pInt (idx p l)) := by
 refine AF.of_body 19 Tryz.func97 rfl Tryz.ntmps97 (Nat.le_of_ble_eq_true rfl) ?_
 intro w0 M0 vs hl hv
 obtain ⟨v0, v1, rfl⟩ := len2 hl
 clear hl hv
 refine aC_slen 0 rfl fun hlen => ?_
 refine nav ?_
 (refine aC_region ?_ <;> refine xL 4 q_assign ?_ <;> refine aL_end (nav ?_) <;> try dsimp only)
 (refine aC_region ?_ <;> refine xL 6 q_move ?_ <;> refine xL 7 (q_len tSl75_LfT) ?_ <;> refine xL 8 q_move ?_ <;> refine aL_end (nav ?_) <;> try dsimp only)
 refine aC_loop (ι := { k : Nat // k ≤ l.length ∧ ∀ i y, i < k → l[i]? = some y → p y = false }) (fun k => ⟨[(0, _, _), (1, _, _), (7, _, _), (8, .int .i64 k.1, pInt k.1)], []⟩) (fun k => l.length - k.1) ⟨0, by omega, by omega⟩ (fun a w H => H.weaken ⟨rfl, rfl, rfl, rfl, trivial⟩ trivial) ?_
 rintro ⟨k, hk, hp⟩
 dsimp only
 refine nav ?_
 (refine aC_region ?_ <;> refine xL 9 q_lss ?_ <;> refine aL_end (nav ?_) <;> try dsimp only)
 (first | refine cCd ?_ ?_ | refine cC ?_ ?_) <;> intro hb9
 · first
   | exact Bool.noConfusion hb9
   | (
    obtain ⟨x, hx⟩ := get_some (show k < l.length by omega)
    have e1 := flat_drop cAut_len l k x hx
    have e2 := flat_fit cAut_len hx
    refine nav ?_
    (refine aC_region ?_ <;> refine xL 10 q_move ?_ <;> refine xL 5 q_assign ?_ <;> refine aL_end (nav ?_) <;> try dsimp only)
    (refine aC_region ?_ <;> refine xL 11 q_move ?_ <;> refine xL 12 q_move ?_ <;> refine xL 13 q_move ?_ <;> refine xL 14 (q_idxN tSl75_LfT) ?_ <;> (refine yL 15 (q_lda tAgg25_LdS) fun v15 hv15 => ?_; cases hv15) <;> (refine cS 16 (callF (f := f) (ps := caps) rfl ⟨_, rfl⟩ hc rfl (hf x (List.mem_of_getElem? hx))) fun v16 hv16 => ?_; cases hv16) <;> refine aL_end (nav ?_) <;> try dsimp only)
    (first | refine cCd ?_ ?_ | refine cC ?_ ?_) <;> intro hb16
    · first
      | exact Bool.noConfusion hb16
      | (
       refine nav ?_
       (refine aC_region ?_ <;> refine xL 17 q_move ?_ <;> refine xL 4 q_assign ?_ <;> refine aL_end (nav ?_) <;> try dsimp only)
       refine ret_shr (Tryz.results97) rfl ?_
       rw [idx_here hp hx hb16])
    · first
      | exact Bool.noConfusion hb16
      | (
       refine nav ?_
       (refine aC_region ?_ <;> refine xL 18 q_add ?_ <;> refine xL 8 q_move ?_ <;> refine aL_end (nav ?_) <;> try dsimp only)
       refine aN_again (
        ⟨k + 1, by omega, fun i y hi hy => by
         by_cases e : i = k
         · subst e; rw [hx] at hy; cases hy; exact hb16
         · exact hp i y (by omega) hy⟩
        ) (by dsimp only; omega) ⟨rfl, rfl, rfl, rfl, trivial⟩ trivial))
 · first
   | exact Bool.noConfusion hb9
   | (
    refine nav ?_
    (refine aC_region ?_ <;> refine xL 4 q_assign ?_ <;> refine aL_end (nav ?_) <;> try dsimp only)
    refine ret_shr (Tryz.results97) rfl ?_
    rw [idx_none fun i y hi hy => hp i y (by omega) hy])
theorem containsFuncAut_e (f : Nat) (caps : List PV) (p : Aut → Bool) (l : List Aut) (hc : ∀ args w, (callFunc f args).run Tryz.prog w = .ok (.enter f args) w) (hf : ∀ s ∈ l, AF Tryz.prog f (.agg (cAut s) :: caps) (· = pBool (p s))) : AF Tryz.prog 56 [.sl l.length (l.flatMap cAut), .fn f caps] (· = pBool (l.any p)) := by
 refine AF.of_body 9 Tryz.func56 rfl Tryz.ntmps56 (Nat.le_of_ble_eq_true rfl) ?_
 intro w0 M0 vs hl hv
 obtain ⟨v0, v1, rfl⟩ := len2 hl
 clear hl hv
 refine nav ?_
 (refine aC_region ?_ <;> refine xL 4 q_assign ?_ <;> refine aL_end (nav ?_) <;> try dsimp only)
 (refine aC_region ?_ <;> refine xL 5 q_move ?_ <;> refine xL 6 q_move ?_ <;> (refine cS 7 (cA Tryz.call97 (indexFuncAut_e f caps p l hc hf)) fun v7 hv7 => ?_; cases hv7) <;> refine xL 8 q_geq ?_ <;> refine xL 4 q_assign ?_ <;> refine aL_end (nav ?_) <;> try dsimp only)
 refine ret_shr (Tryz.results56) rfl ?_
 rw [idx_any]
theorem great071_e (a : Aut) : AF Tryz.prog 57 [.agg (cAut a)] (· = pBool (greatA a)) := by
 refine AF.of_body 39 Tryz.func57 rfl Tryz.ntmps57 (Nat.le_of_ble_eq_true rfl) ?_
 intro w0 M0 vs hl hv
 obtain ⟨v0, rfl⟩ := len1 hl
 clear hl hv
 refine nav ?_
 (refine aC_region ?_ <;> refine s_boxa 1 5 fun h1 => ?_ <;> refine xL 2 q_assign ?_ <;> refine aL_end (nav ?_) <;> try dsimp only)
 (refine aC_region ?_ <;> refine xL 3 (q_fldo 1 tFl25_0_LdI) ?_ <;> (refine yL 4 (q_ldo 1 tNa3_LbB) fun v4 hv4 => ?_; cases hv4) <;> refine xL 5 q_gtr ?_ <;> refine xL 6 q_move ?_ <;> (refine bLd 6 (fun hb6 => ?_) (fun hb6 => ?_) <;> (first | refine kL 7 ?_ | refine xL 7 (q_fldo 1 tFl25_0_LdI) ?_)) <;> (first | refine kL 8 ?_ | (refine yL 8 (q_ldo 1 tNa3_LbB) fun v8 hv8 => ?_; cases hv8)) <;> (first | refine kL 9 ?_ | refine xL 9 q_leq ?_) <;> refine xL 10 q_pick ?_ <;> refine xL 11 q_move ?_ <;> (first | refine xL 12 (q_fldo 1 tFl25_1_LdI) ?_ | (refine bLd 11 (fun hb11 => ?_) (fun hb11 => ?_) <;> (first | refine kL 12 ?_ | refine xL 12 (q_fldo 1 tFl25_1_LdI) ?_))) <;> (first | refine kL 13 ?_ | (refine yL 13 (q_ldo 1 tNa3_LbB) fun v13 hv13 => ?_; cases hv13)) <;> (first | refine kL 14 ?_ | refine xL 14 q_gtr ?_) <;> (first | refine kL 15 ?_ | refine xL 15 q_move ?_) <;> (first | refine kL 16 ?_ | (refine bLd 15 (fun hb15 => ?_) (fun hb15 => ?_) <;> (first | refine kL 16 ?_ | refine xL 16 (q_fldo 1 tFl25_1_LdI) ?_))) <;> (first | refine kL 17 ?_ | (refine yL 17 (q_ldo 1 tNa3_LbB) fun v17 hv17 => ?_; cases hv17)) <;> (first | refine kL 18 ?_ | refine xL 18 q_leq ?_) <;> (first | refine kL 19 ?_ | refine xL 19 q_pick ?_) <;> refine xL 20 q_pick ?_ <;> refine xL 21 q_move ?_ <;> (first | refine kL 22 ?_ | refine xL 22 (q_fldo 1 tFl25_4_LdI) ?_ | (refine bLd 21 (fun hb21 => ?_) (fun hb21 => ?_) <;> (first | refine kL 22 ?_ | refine xL 22 (q_fldo 1 tFl25_4_LdI) ?_))) <;> (first | refine kL 23 ?_ | (refine yL 23 (q_ldo 1 tNa23_LdI) fun v23 hv23 => ?_; cases hv23)) <;> (first | refine kL 24 ?_ | refine xL 24 (q_len tSl23_LdI) ?_) <;> (first | refine kL 25 ?_ | refine xL 25 q_gtr ?_) <;> refine xL 26 q_pick ?_ <;> refine xL 27 q_move ?_ <;> (first | refine kL 28 ?_ | (refine bLd 27 (fun hb27 => ?_) (fun hb27 => ?_) <;> (first | refine kL 28 ?_ | refine xL 28 (q_fldo 1 tFl25_2_LdI) ?_))) <;> (first | refine kL 29 ?_ | (refine yL 29 (q_ldo 1 tNa22_LdI) fun v29 hv29 => ?_; cases hv29)) <;> (first | refine kL 30 ?_ | refine xL 30 (q_len tSl22_LbB) ?_) <;> (first | refine kL 31 ?_ | refine xL 31 q_gtr ?_) <;> refine xL 32 q_pick ?_ <;> refine xL 33 q_move ?_ <;> (first | refine kL 34 ?_ | (refine bLd 33 (fun hb33 => ?_) (fun hb33 => ?_) <;> (first | refine kL 34 ?_ | refine xL 34 (q_fldo 1 tFl25_3_LdI) ?_))) <;> (first | refine kL 35 ?_ | (refine yL 35 (q_ldo 1 tNa22_LdI) fun v35 hv35 => ?_; cases hv35)) <;> (first | refine kL 36 ?_ | refine xL 36 (q_len tSl22_LbB) ?_) <;> (first | refine kL 37 ?_ | refine xL 37 q_gtr ?_) <;> refine xL 38 q_pick ?_ <;> refine xL 2 q_assign ?_ <;> refine aL_end (nav ?_) <;> try dsimp only) <;> (
  refine ret_shr (Tryz.results57) rfl ?_
  refine congrArg pBool ?_
  unfold greatA
  clear w0 M0 v0 h1
  first | (simp_all; done) | (simp_all; omega))
theorem great07_e (l : List Aut) : AF Tryz.prog 14 [.sl l.length (l.flatMap cAut)] (· = pBool (l.any greatA)) := by
 refine AF.of_body 5 Tryz.func14 rfl Tryz.ntmps14 (Nat.le_of_ble_eq_true rfl) ?_
 intro w0 M0 vs hl hv
 obtain ⟨v0, rfl⟩ := len1 hl
 clear hl hv
 refine nav ?_
 (refine aC_region ?_ <;> refine xL 2 q_assign ?_ <;> refine aL_end (nav ?_) <;> try dsimp only)
 (refine aC_region ?_ <;> refine xL 3 q_move ?_ <;> (refine cS 4 (cA Tryz.call56 (containsFuncAut_e 57 [] greatA l (Tryz.call57) (fun a _ => great071_e a))) fun v4 hv4 => ?_; cases hv4) <;> refine xL 2 q_assign ?_ <;> refine aL_end (nav ?_) <;> try dsimp only)
 exact ret_shr Tryz.results14 rfl rfl
theorem ends07_e : AF Tryz.prog 53 [] (· = pAut ex07) := by
 refine AF.of_body 8 Tryz.func53 rfl Tryz.ntmps53 (Nat.le_of_ble_eq_true rfl) ?_
 intro w0 M0 vs hl hv
 obtain rfl := List.eq_nil_of_length_eq_zero hl
 clear hl hv
 refine nav ?_
 (refine aC_region ?_ <;> refine s_alloc [(.int .i64 0), (.int .i64 0), (.slice none 0 0), (.slice none 0 0), (.slice none 0 0)] 5 0 tZr25_LfD fun h0 => ?_ <;> refine aL_end (nav ?_) <;> try dsimp only)
 (refine aC_region ?_ <;> (refine s_lit1 (kk := 1) 1 tEl22_LdI fun h1 ho1 => ?_; refine aL_ent (En.freeze (l := 1) (t := 1) rfl rfl) fun _ => ?_; refine aL_ent (reslot (t := 1) (p' := pInts [0]) rfl rfl) fun _ => ?_) <;> (refine s_lit1 (kk := 1) 2 tEl22_LdI fun h2 ho2 => ?_; refine aL_ent (En.freeze (l := 2) (t := 2) rfl rfl) fun _ => ?_; refine aL_ent (reslot (t := 2) (p' := pInts [1]) rfl rfl) fun _ => ?_) <;> refine xL 3 (q_build tSt72_LfD) ?_ <;> refine xL 4 (q_build tSt72_LfD) ?_ <;> refine xL 5 (q_build tSt72_LfD) ?_ <;> (refine s_lita (kk := 3) (xs := [_, _, _]) (cs := [[_, _, _], [_, _, _], [_, _, _]]) 6 tEl23_LdR fun h6 ho6 => ?_; refine aL_ent (En.freeze (l := 6) (t := 6) rfl rfl) fun _ => ?_; refine aL_ent (reslot (t := 6) (p' := pMvs ex07.moves) rfl rfl) fun _ => ?_) <;> refine xL 7 (q_build tSt25_LfD) ?_ <;> refine s_sta 0 tAgg25_LdS ?_ <;> refine aL_end (nav ?_) <;> try dsimp only)
 exact ret_cell (k := 5) 0 (by kernel_rfl) (Tryz.results53) rfl rfl (Nat.le_of_ble_eq_true rfl) (by decide) rfl rfl
def ex07S : Aut := ⟨2, 2, [0], [0], [⟨0, 1, 0⟩, ⟨0, 0, 1⟩, ⟨1, 1, 0⟩, ⟨1, 0, 1⟩]⟩
theorem ex07_subS : (subI (mkA (starA ex07))).upto (closI (mkA (starA ex07)) (mkA (starA ex07)).start) 3 = some ([[0, 2], [0], [0, 1, 2]], [[1, 2], [1, 2], [1, 2]]) := by kernel_rfl
theorem ex07_minS : leastT ⟨2, [[1, 2], [1, 2], [1, 2]], [true, false, true]⟩ = some ex07S := by kernel_rfl
theorem ex07_redS : redX (mkA (starA ex07)) = .ok ex07S := redX_of 3 ex07_subS (by decide) (by decide) ex07_minS
theorem ex07_star : starX ex07 = .ok ex07S := by
 unfold starX madeX redL
 rw [ex07_ok, if_pos rfl, if_neg (by show ¬ (2000 < ((2 : Int) + 1) ∨ 20000 < (mkM (starA ex07).moves).length); rw [show (mkM (starA ex07).moves).length = 5 by kernel_rfl]; omega)]
 exact ex07_redS
theorem ex07_subS2 : (subI ex07S).upto (closI ex07S ex07S.start) 2 = some ([[0], [1]], [[1, 0], [1, 0]]) := by kernel_rfl
theorem ex07_minS2 : leastT ⟨2, [[1, 0], [1, 0]], [true, false]⟩ = some ex07S := by kernel_rfl
theorem ex07_redS2 : redX ex07S = .ok ex07S := redX_of 2 ex07_subS2 (by decide) (by decide) ex07_minS2
theorem ex07_prodS : (prodW ex07M ex07S).upto ((0, 0), (-1, -1)) 3 = some ([((0, 0), (-1, -1)), ((0, 1), (0, 0)), ((1, 0), (0, 1))], [[1, 2], [1, 2], [1, 2]]) := by kernel_rfl
theorem ex07_cmpS : cmpX ex07 ex07S 4 = (false, [], 0) := (cmpX_of (by kernel_rfl) (bothX_of 3 ex07_red ex07_redS2 ex07_prodS (by decide) (by decide))).trans (by kernel_rfl)
theorem ex07_prodM : (prodW ex07M ex07M).upto ((0, 0), (-1, -1)) 2 = some ([((0, 0), (-1, -1)), ((1, 1), (0, 1))], [[0, 1], [0, 1]]) := by kernel_rfl
theorem ex07_cmpM : cmpX ex07 ex07M 4 = (true, [], 0) := (cmpX_of (by kernel_rfl) (bothX_of 2 ex07_red ex07_redM ex07_prodM (by decide) (by decide))).trans (by kernel_rfl)
theorem ex07_far : farL ex07 = [1, 0] := by kernel_rfl
theorem ex07_big : bigI ex07 [1, 0] 2 = false := by kernel_rfl
theorem ex07_sum : sumI ex07 [1, 0] 2 3 = [[1], [0, 1], [1, 1]] := by kernel_rfl
theorem ex07_words : AF Tryz.prog 15 [pAut ex07, pInt 2] (· = .tup [pIntss [[1], [0, 1], [1, 1]], pInt 0]) := (aWords_e ex07 2).mono fun p hp => by
 rcases hp with ⟨h, _⟩ | ⟨_, h, _⟩ | ⟨_, _, _, h, _⟩ | ⟨_, _, _, _, h⟩
 · rw [ex07_ok] at h; cases h
 · omega
 · rw [bigI_eq, ex07_far, show (2 : Int).toNat = 2 from rfl, ex07_big] at h; cases h
 · rw [h, sumI_eq, ex07_far, show (2 : Int).toNat = 2 from rfl, ex07_sum]
theorem ex07_minE : AF Tryz.prog 26 [pAut ex07] (· = .tup [pAut ex07M, pInt 0]) := by
 have := aMinimalW_e ex07
 rw [ex07_minX] at this; exact this
theorem ex07_starE : AF Tryz.prog 44 [pAut ex07] (· = .tup [pAut ex07S, pInt 0]) := by
 have := aStar_e ex07
 rw [ex07_star] at this; exact this
theorem ex07_eqS : AF Tryz.prog 33 [pAut ex07, pAut ex07S] (· = .tup [pBool false, pInts [], pInt 0]) := by
 have := aEquivalent_e ex07 ex07S
 rw [ex07_cmpS] at this; exact this
theorem ex07_eqM : AF Tryz.prog 33 [pAut ex07, pAut ex07M] (· = .tup [pBool true, pInts [], pInt 0]) := by
 have := aEquivalent_e ex07 ex07M
 rw [ex07_cmpM] at this; exact this
set_option maxHeartbeats 2000000 in
theorem awake07_e : AF Tryz.prog 13 [] (· = pBool true) := by
 refine AF.of_body 94 Tryz.func13 rfl Tryz.ntmps13 (Nat.le_of_ble_eq_true rfl) ?_
 intro w0 M0 vs hl hv
 obtain rfl := List.eq_nil_of_length_eq_zero hl
 clear hl hv
 refine nav ?_
 (refine aC_region ?_ <;> refine xL 0 q_assign ?_ <;> refine aL_end (nav ?_) <;> try dsimp only)
 (refine aC_region ?_ <;> (refine cD 15 (cA Tryz.call53 (ends07_e)) fun v15 hv15 => ?_; clear hv15) <;> refine s_alloc [(.int .i64 0), (.int .i64 0), (.slice none 0 0), (.slice none 0 0), (.slice none 0 0)] 5 1 tZr25_LfD fun h1 => ?_ <;> refine s_sta 1 tAgg25_LdS ?_ <;> refine aL_end (nav ?_) <;> try dsimp only)
 (refine aC_region ?_ <;> (refine yL 17 (q_ldao 1 tAgg25_LdS) fun v17 hv17 => ?_; cases hv17) <;> (refine cP 18 (cA Tryz.call26 (ex07_minE)) fun va18 vb18 hva18 hvb18 => ?_; cases hvb18) <;> refine xL 16 q_move ?_ <;> refine xL 19 q_extract ?_ <;> refine xL 20 q_extract ?_ <;> refine s_alloc [(.int .i64 0), (.int .i64 0), (.slice none 0 0), (.slice none 0 0), (.slice none 0 0)] 5 2 tZr25_LfD fun h2 => ?_ <;> refine s_sta 2 tAgg25_LdS ?_ <;> refine xL 3 q_assign ?_ <;> refine aL_end (nav ?_) <;> try dsimp only)
 (refine aC_region ?_ <;> (refine yL 22 (q_ldao 1 tAgg25_LdS) fun v22 hv22 => ?_; cases hv22) <;> (refine cP 23 (cA Tryz.call15 (ex07_words)) fun va23 vb23 hva23 hvb23 => ?_; cases hvb23) <;> refine xL 21 q_move ?_ <;> refine xL 24 q_extract ?_ <;> refine xL 25 q_extract ?_ <;> refine xL 4 q_assign ?_ <;> refine xL 5 q_assign ?_ <;> refine aL_end (nav ?_) <;> try dsimp only)
 (refine aC_region ?_ <;> (refine yL 27 (q_ldao 1 tAgg25_LdS) fun v27 hv27 => ?_; cases hv27) <;> (refine cP 28 (cA Tryz.call44 (ex07_starE)) fun va28 vb28 hva28 hvb28 => ?_; cases hvb28) <;> refine xL 26 q_move ?_ <;> refine xL 29 q_extract ?_ <;> refine xL 30 q_extract ?_ <;> refine s_alloc [(.int .i64 0), (.int .i64 0), (.slice none 0 0), (.slice none 0 0), (.slice none 0 0)] 5 6 tZr25_LfD fun h6 => ?_ <;> refine s_sta 6 tAgg25_LdS ?_ <;> refine xL 7 q_assign ?_ <;> refine aL_end (nav ?_) <;> try dsimp only)
 (refine aC_region ?_ <;> (refine yL 32 (q_ldao 1 tAgg25_LdS) fun v32 hv32 => ?_; cases hv32) <;> (refine yL 33 (q_ldao 6 tAgg25_LdS) fun v33 hv33 => ?_; cases hv33) <;> (refine cPx3 34 (cA Tryz.call33 ex07_eqS) fun va34 vb34 vc34 hva34 hvb34 hvc34 => ?_; cases hva34; cases hvc34) <;> refine xL 31 q_move ?_ <;> refine xL 35 q_extract ?_ <;> refine xL 36 q_extract ?_ <;> refine xL 37 q_extract ?_ <;> refine xL 8 q_assign ?_ <;> refine xL 9 q_assign ?_ <;> refine xL 10 q_assign ?_ <;> refine aL_end (nav ?_) <;> try dsimp only)
 (refine aC_region ?_ <;> (refine yL 39 (q_ldao 1 tAgg25_LdS) fun v39 hv39 => ?_; cases hv39) <;> (refine yL 40 (q_ldao 2 tAgg25_LdS) fun v40 hv40 => ?_; cases hv40) <;> (refine cPx3 41 (cA Tryz.call33 ex07_eqM) fun va41 vb41 vc41 hva41 hvb41 hvc41 => ?_; cases hva41; cases hvc41) <;> refine xL 38 q_move ?_ <;> refine xL 42 q_extract ?_ <;> refine xL 43 q_extract ?_ <;> refine xL 44 q_extract ?_ <;> refine xL 11 q_assign ?_ <;> refine xL 12 q_assign ?_ <;> refine xL 13 q_assign ?_ <;> refine aL_end (nav ?_) <;> try dsimp only)
 (refine aC_region ?_ <;> refine xL 45 (q_build tSt72_LfD) ?_ <;> refine xL 46 (q_build tSt72_LfD) ?_ <;> refine xL 47 (q_build tSt72_LfD) ?_ <;> refine xL 48 (q_build tSt72_LfD) ?_ <;> (refine s_lita (kk := 3) (xs := [_, _, _, _]) (cs := [[_, _, _], [_, _, _], [_, _, _], [_, _, _]]) 49 tEl23_LdR fun h49 ho49 => ?_; refine aL_ent (En.freeze (l := 49) (t := 49) rfl rfl) fun _ => ?_; refine aL_ent (reslot (t := 49) (p' := pMvs ex07M.moves) rfl rfl) fun _ => ?_) <;> refine xL 14 q_assign ?_ <;> refine aL_end (nav ?_) <;> try dsimp only)
 (refine aC_region ?_ <;> refine xL 50 q_move ?_ <;> refine xL 51 q_eql ?_ <;> refine xL 52 q_move ?_ <;> refine xL 53 (q_fldo 2 tFl25_4_LdI) ?_ <;> (refine yL 54 (q_ldo 2 tNa23_LdI) fun v54 hv54 => ?_; cases hv54) <;> refine xL 55 q_move ?_ <;> (refine cS 56 (cA Tryz.call54 ((sEqualMv_e ex07M.moves ex07M.moves).mono (R' := (· = pBool true)) fun p hp => by rw [hp]; rfl)) fun v56 hv56 => ?_; cases hv56) <;> refine xL 57 q_pick ?_ <;> refine xL 58 q_move ?_ <;> refine xL 59 q_move ?_ <;> refine xL 60 q_eql ?_ <;> refine xL 61 q_pick ?_ <;> refine xL 62 q_move ?_ <;> refine xL 63 q_move ?_ <;> (refine s_lit1 (kk := 1) 64 tEl22_LdI fun h64 ho64 => ?_; refine aL_ent (En.freeze (l := 64) (t := 64) rfl rfl) fun _ => ?_; refine aL_ent (reslot (t := 64) (p' := pInts [1]) rfl rfl) fun _ => ?_) <;> (refine s_litn (xs := [_, _]) 65 tEl22_LdI fun h65 ho65 => ?_; refine aL_ent (En.freeze (l := 65) (t := 65) rfl rfl) fun _ => ?_; refine aL_ent (reslot (t := 65) (p' := pInts [0, 1]) rfl rfl) fun _ => ?_) <;> (refine s_litn (xs := [_, _]) 66 tEl22_LdI fun h66 ho66 => ?_; refine aL_ent (En.freeze (l := 66) (t := 66) rfl rfl) fun _ => ?_; refine aL_ent (reslot (t := 66) (p' := pInts [1, 1]) rfl rfl) fun _ => ?_) <;> (refine s_litn (xs := [_, _, _]) 67 tEl28_LdS fun h67 ho67 => ?_; refine aL_ent (En.freeze (l := 67) (t := 67) rfl rfl) fun _ => ?_; refine aL_ent (reslot (t := 67) (p' := pIntss [[1], [0, 1], [1, 1]]) rfl rfl) fun _ => ?_) <;> (refine cS 68 (cA Tryz.call55 ((sEqualFuncInts_e [[1], [0, 1], [1, 1]] [[1], [0, 1], [1, 1]]).mono (R' := (· = pBool true)) fun p hp => by rw [hp]; rfl)) fun v68 hv68 => ?_; cases hv68) <;> refine xL 69 q_pick ?_ <;> refine xL 70 q_move ?_ <;> refine xL 71 q_move ?_ <;> refine xL 72 q_eql ?_ <;> refine xL 73 q_pick ?_ <;> refine xL 74 q_move ?_ <;> refine xL 75 q_move ?_ <;> refine xL 76 q_eql ?_ <;> refine xL 77 q_pick ?_ <;> refine xL 78 q_move ?_ <;> refine xL 79 q_move ?_ <;> refine xL 80 q_not ?_ <;> refine xL 81 q_pick ?_ <;> refine xL 82 q_move ?_ <;> refine xL 83 q_move ?_ <;> refine xL 84 (q_len tSl22_LbB) ?_ <;> refine xL 85 q_eql ?_ <;> refine xL 86 q_pick ?_ <;> refine xL 87 q_move ?_ <;> refine xL 88 q_move ?_ <;> refine xL 89 q_eql ?_ <;> refine xL 90 q_pick ?_ <;> refine xL 91 q_move ?_ <;> refine xL 92 q_move ?_ <;> refine xL 93 q_pick ?_ <;> refine xL 0 q_assign ?_ <;> refine aL_end (nav ?_) <;> try dsimp only) <;> (
  refine ret_shr (Tryz.results13) rfl rfl)
end Go.Proofs.YtgigclnaicbiaaaGreatDoor
namespace Go.En
open Go.RowKit Go.Cb Go.WideShapes Go.ChangeShapes Go.ChangeAt Go.Deep
set_option linter.all false
theorem weightsAll_mem {H : Type} (P : Program) (e : TypeId) {d : DataW H} {n : Nat} : ∀ {l : List (DataW H)}, d ∈ l → n ∈ d.weights P e → n ∈ DataW.weightsAll P e l
 | x :: l, h, hn => by
   rw [DataW.weightsAll, List.mem_append]
   rcases List.mem_cons.1 h with rfl | h
   · exact .inl hn
   · exact .inr (weightsAll_mem P e h hn)
theorem weightsEach_mem {H : Type} (P : Program) {d : DataW H} {t : TypeId} {n : Nat} : ∀ {ts : List TypeId} {l : List (DataW H)} (i : Nat), ts[i]? = some t → l[i]? = some d → n ∈ d.weights P t → n ∈ DataW.weightsEach P ts l
 | t' :: ts, x :: l, 0, h1, h2, hn => by
   simp at h1 h2
   subst h1 h2
   rw [DataW.weightsEach, List.mem_append]
   exact .inl hn
 | t' :: ts, x :: l, i + 1, h1, h2, hn => by
   rw [DataW.weightsEach, List.mem_append]
   exact .inr (weightsEach_mem P i (by simpa using h1) (by simpa using h2) hn)
structure Dec (P : Program) (t : TypeId) (k : Nat) {α : Type} (enc : α → List PV) (fit : α → Prop) : Prop where
 size : P.cellsOf t = k
 len : ∀ a, (enc a).length = k
 dec : ∀ {H : Type} (e : TypeId × Value → H) (w : World) (spare : Nat → Bool) (held : Bool) (fuel : Nat) (cs : List Value) (x : DataW H × List MemPlace), DataW.trod e P w 0 spare held fuel t cs = some x → (∀ n ∈ x.1.weights P t, n ≤ reachBytes) →
  ∃ a, fit a ∧ cs.length = k ∧ ∀ (i : Nat) (v : Value) (p : PV), cs[i]? = some v → (enc a)[i]? = some p → Shr (fun _ => False) w v p
section
variable {P : Program} {t : TypeId}
theorem one_at {v u : Value} {p q : PV} {w : World} (h : Shr (fun _ => False) w v p) (i : Nat) (h1 : [v][i]? = some u) (h2 : [p][i]? = some q) : Shr (fun _ => False) w u q := by
 cases i with
 | zero => simp at h1 h2; subst h1 h2; exact h
 | succ i => simp at h1
theorem dec_int (ht : P.underlying t = some (.int .i64)) (hs : P.cellsOf t = 1) : Dec P t 1 (fun n : Int => [pInt n]) (fun n => -9223372036854775808 ≤ n ∧ n ≤ 9223372036854775807) where
 size := hs
 len := fun _ => rfl
 dec := fun e w spare held fuel cs x h => by
  intro hwt
  obtain ⟨n, rfl, _, hw⟩ := DataW.trod_int ht h
  refine ⟨n, ?_, rfl, fun i v p h1 h2 => one_at (.val _) i h1 h2⟩
  simpa [Lit.wf, IntKind.min, IntKind.max, IntKind.signed, IntKind.bits] using hw
theorem dec_slice {α : Type} {e k : Nat} {enc : α → List PV} {fit : α → Prop} (ht : P.underlying t = some (.slice e)) (hs : P.cellsOf t = 1) (hk : 0 < k) (hby : 0 < P.bytesOf e) (D : Dec P e k enc fit) :
 Dec P t 1 (fun l : List α => [PV.sl l.length (l.flatMap enc)]) (fun l => l.length ≤ 140737488355328 ∧ ∀ x ∈ l, fit x) where
 size := hs
 len := fun _ => rfl
 dec := fun en w spare held fuel cs x h => by
  intro hwt
  rcases open_slice ht h with ⟨rfl, _⟩ | ⟨a, len, cap, m, n, Dt, Pl, rfl, _, hl, hm, hmm, rfl, hx⟩
  · exact ⟨[], ⟨by simp, by simp⟩, rfl, fun i v p h1 h2 => one_at (.emp none 0 (by unfold maxLen; omega) (fun _ => rfl)) i h1 h2⟩
  · rcases Nat.eq_zero_or_pos len with h0 | h0
    · subst h0
      exact ⟨[], ⟨by simp, by simp⟩, rfl, fun i v p h1 h2 => one_at (.emp (some a) cap hm (fun h => by cases h)) i h1 h2⟩
    have hlm : len ≤ m := by rw [hmm]; split <;> omega
    simp only [DataW.weights, ht] at hwt
    have hlen : len ≤ reachBytes := by
     have := hwt _ (List.mem_cons_self ..)
     simp only [List.length_map, List.length_range] at this
     exact Nat.le_trans (Nat.le_trans (Nat.le_add_right len _) (Nat.le_mul_of_pos_right _ hby)) this
    have hwi : ∀ i, i < len → ∀ n ∈ (Dt i).weights P e, n ≤ reachBytes := fun i hi n hn => hwt n (List.mem_cons_of_mem _ (List.mem_append.2 (.inl (weightsAll_mem P e (List.mem_map.2 ⟨i, by simpa using hi, rfl⟩) hn))))
    have key : ∀ i : Nat, ∃ (y : α × (Nat → Value)), i < len → fit y.1 ∧ ∀ (j : Nat) (p : PV), (enc y.1)[j]? = some p → w.cell? ((a.add (i * k)).add j) = some (y.2 j) ∧ Shr (fun _ => False) w (y.2 j) p := fun i => by
     obtain ⟨cs0, h10, h20⟩ := hx 0 (by omega)
     obtain ⟨y0, _⟩ := D.dec en w spare held n cs0 _ h20 (hwi 0 h0)
     by_cases hi : i < len
     · obtain ⟨cs', h1, h2⟩ := hx i (by omega)
       rw [D.size] at h1
       obtain ⟨_, hlen, hcell⟩ := World.cells?_some h1
       obtain ⟨y, hy, _, hS⟩ := D.dec en w spare held n cs' _ h2 (hwi i hi)
       refine ⟨(y, fun j => (cs'[j]?).getD undef), fun _ => ⟨hy, fun j p hp => ?_⟩⟩
       have hj : j < k := by rw [← D.len y]; exact lt_of_get hp
       obtain ⟨u, hu⟩ := get_of_lt (show j < cs'.length by omega)
       have := hcell j hj
       simp only [hu, Option.getD_some]
       exact ⟨by rw [this, hu], hS j u p hu hp⟩
     · exact ⟨(y0, fun _ => undef), fun h => absurd h hi⟩
    obtain ⟨Y, hY⟩ := Classical.skolem.1 key
    have hspot : ∃ b off, a = ⟨b, off, none⟩ := by
     obtain ⟨hf, hc⟩ := hY 0 h0
     obtain ⟨p, hp⟩ := get_of_lt (show 0 < (enc (Y 0).1).length by rw [D.len]; exact hk)
     have := (hc 0 p hp).1
     obtain ⟨b, off, spot⟩ := a
     have hspot : spot = none := by simpa [Addr.add] using World.cell?_spot this
     subst hspot
     exact ⟨b, off, rfl⟩
    obtain ⟨b, off, rfl⟩ := hspot
    have hflen : ((List.range len).map fun i => (Y i).1).length = len := by simp
    refine ⟨(List.range len).map fun i => (Y i).1, ⟨by rw [hflen]; unfold reachBytes at hlen; omega, fun x hx => ?_⟩, rfl, fun i v p h1 h2 => one_at ?_ i h1 h2⟩
    · obtain ⟨i, hi, rfl⟩ := List.mem_map.1 hx
      exact (hY i (by simpa using hi)).1
    · rw [hflen]
      have hat : ∀ (c : Nat) (p : PV), (((List.range len).map fun i => (Y i).1).flatMap enc)[c]? = some p → c / k < len ∧ (enc (Y (c / k)).1)[c % k]? = some p := fun c p hp => by
       have hc : c < len * k := by have := lt_of_get hp; rw [flat_len D.len, hflen] at this; exact this
       have hq : c / k < len := Nat.div_lt_of_lt_mul (by rw [Nat.mul_comm]; exact hc)
       have hget : ((List.range len).map fun i => (Y i).1)[c / k]? = some (Y (c / k)).1 := by simp [hq]
       have := flat_at D.len hget (Nat.mod_lt c hk)
       rw [Nat.mul_comm, Nat.div_add_mod] at this
       exact ⟨hq, by rw [← this]; exact hp⟩
      refine .sl b off len cap _ (fun c => (Y (c / k)).2 (c % k)) hl hm (fun c hc => ⟨?_, fun h => h⟩) (fun c p hp => ?_)
      · obtain ⟨p, hp⟩ := get_of_lt hc
        obtain ⟨hq, hp'⟩ := hat c p hp
        have := ((hY (c / k) hq).2 (c % k) p hp').1
        rw [add_none, add_none, Nat.add_assoc, Nat.mul_comm, Nat.div_add_mod] at this
        exact this
      · obtain ⟨hq, hp'⟩ := hat c p hp
        exact ((hY (c / k) hq).2 (c % k) p hp').2
theorem dec_field {H : Type} {α : Type} {e k o : Nat} {enc : α → List PV} {fit : α → Prop} (D : Dec P e k enc fit) {en : TypeId × Value → H} {w : World} {spare : Nat → Bool} {held : Bool} {n : Nat} {cs : List Value} {y : DataW H × List MemPlace}
 (h : DataW.trod en P w 0 spare held n e ((cs.drop o).take (P.cellsOf e)) = some y) (hwt : ∀ n ∈ y.1.weights P e, n ≤ reachBytes) : ∃ a, fit a ∧ ∀ (i : Nat) (v : Value) (p : PV), cs[o + i]? = some v → (enc a)[i]? = some p → Shr (fun _ => False) w v p := by
 obtain ⟨a, h1, _, h3⟩ := D.dec en w spare held n _ y h hwt
 refine ⟨a, h1, fun i v p hv hp => h3 i v p ?_ hp⟩
 have hi : i < k := by rw [← D.len a]; exact lt_of_get hp
 rw [D.size, List.getElem?_take_of_lt hi, List.getElem?_drop]; exact hv
theorem dec_map {α β : Type} {k : Nat} {enc : α → List PV} {enc' : β → List PV} {fit : α → Prop} {fit' : β → Prop} (g : α → β) (D : Dec P t k enc fit) (hl : ∀ b, (enc' b).length = k) (he : ∀ a, enc' (g a) = enc a) (h : ∀ a, fit a → fit' (g a)) : Dec P t k enc' fit' :=
 ⟨D.size, hl, fun e w s hd f cs x hx hy => let ⟨a, h1, h2, h3⟩ := D.dec e w s hd f cs x hx hy; ⟨g a, h a h1, h2, by rw [he]; exact h3⟩⟩
theorem split_at {cs : List Value} {A B : List PV} {k : Nat} {w : World} (hA : A.length = k) (h1 : ∀ (i : Nat) (v : Value) (p : PV), cs[i]? = some v → A[i]? = some p → Shr (fun _ => False) w v p)
 (h2 : ∀ (i : Nat) (v : Value) (p : PV), cs[k + i]? = some v → B[i]? = some p → Shr (fun _ => False) w v p) (i : Nat) (v : Value) (p : PV) (hv : cs[i]? = some v) (hp : (A ++ B)[i]? = some p) : Shr (fun _ => False) w v p := by
 rcases Nat.lt_or_ge i k with h | h
 · rw [List.getElem?_append_left (by omega)] at hp; exact h1 i v p hv hp
 · rw [List.getElem?_append_right (by omega)] at hp
   exact h2 (i - k) v p (by rw [Nat.add_sub_cancel' h]; exact hv) (by rw [← hA]; exact hp)
theorem dec_struct3 {α β γ : Type} {f0 f1 f2 : Field} {k0 k1 k2 : Nat} {enc0 : α → List PV} {enc1 : β → List PV} {enc2 : γ → List PV} {fit0 : α → Prop} {fit1 : β → Prop} {fit2 : γ → Prop} (ht : P.underlying t = some (.struct #[f0, f1, f2])) (hs : P.cellsOf t = k0 + k1 + k2)
 (D0 : Dec P f0.type k0 enc0 fit0) (D1 : Dec P f1.type k1 enc1 fit1) (D2 : Dec P f2.type k2 enc2 fit2) (ho0 : f0.offset = 0) (ho1 : f1.offset = k0) (ho2 : f2.offset = k0 + k1) :
 Dec P t (k0 + k1 + k2) (fun x : α × β × γ => enc0 x.1 ++ (enc1 x.2.1 ++ enc2 x.2.2)) (fun x => fit0 x.1 ∧ fit1 x.2.1 ∧ fit2 x.2.2) where
 size := hs
 len := fun x => by rw [List.length_append, List.length_append, D0.len, D1.len, D2.len]; omega
 dec := fun e w spare held fuel cs x h => by
  intro hwt
  obtain ⟨xs, n, _, rfl, hlen, hxl, hf⟩ := DataW.trod_struct ht h
  simp only [DataW.weights, ht] at hwt
  have g0 := hf 0 f0 rfl
  have g1 := hf 1 f1 rfl
  have g2 := hf 2 f2 rfl
  match xs, hxl with
  | [y0, y1, y2], _ =>
  rw [ho0] at g0
  rw [ho1] at g1
  rw [ho2] at g2
  obtain ⟨a, ha, A⟩ := dec_field D0 g0 (fun n hn => hwt n (weightsEach_mem P 0 (by simp) (by simp) hn))
  obtain ⟨b, hb, B⟩ := dec_field D1 g1 (fun n hn => hwt n (weightsEach_mem P 1 (by simp) (by simp) hn))
  obtain ⟨c, hc, C⟩ := dec_field D2 g2 (fun n hn => hwt n (weightsEach_mem P 2 (by simp) (by simp) hn))
  refine ⟨(a, b, c), ⟨ha, hb, hc⟩, by rw [hlen, hs], split_at (D0.len a) (fun i v p hv hp => A i v p (by rw [Nat.zero_add]; exact hv) hp) fun i v p hv hp => ?_⟩
  exact split_at (cs := cs.drop k0) (D1.len b) (fun i v p hv hp => B i v p (by rw [List.getElem?_drop] at hv; exact hv) hp) (fun i v p hv hp => C i v p (by rw [List.getElem?_drop, ← Nat.add_assoc] at hv; exact hv) hp) i v p (by rw [List.getElem?_drop]; exact hv) hp
section
variable {H : Type} {en : TypeId × Value → H} {w : World} {spare : Nat → Bool} {held : Bool} {r : Reach} {base : Nat} {v : Value} {d : DataW H} {ps : List MemPlace}
theorem argA {α : Type} {k : Nat} {enc : α → List PV} {fit : α → Prop} (D : Dec P t k enc fit) (hT : StrT P t = true) (hv : Value.okWide P w r base t v) (h : DataW.Trod en P w 0 spare held t v d ps) (hwt : ∀ n ∈ d.weights P t, n ≤ reachBytes) : ∃ a, fit a ∧ Shr (fun _ => False) w v (.agg (enc a)) := by
 obtain ⟨fuel, hf⟩ := h
 have : ∃ fs, P.underlying t = some (.struct fs) := by
  unfold StrT at hT
  split at hT
  · rename_i fs hfs; exact ⟨fs, hfs⟩
  · cases hT
 obtain ⟨fs, hfs⟩ := this
 obtain ⟨cs, rfl, hsz⟩ := okWide_struct hfs hv
 obtain ⟨a, h1, h2, h3⟩ := D.dec en w spare held fuel _ _ hf hwt
 refine ⟨a, h1, ?_⟩
 have := Shr.agg (M := fun _ => False) (w := w) cs.toList (enc a) (by rw [D.len a]; exact h2) h3
 simpa using this
end
theorem trodAll_back {H : Type} {enc : TypeId × Value → H} {P : Program} (hl : laidOutB P = true) {W W' : World} (hb : Below W.heap.size W W') : ∀ {ts : List TypeId} {vs : List Value} {ds : List (DataW H)} {ps : List MemPlace}, (ts.all fun t => P.readableRec t && decide (t < P.types.size)) = true →
 DataW.TrodAll enc P W 0 (fun _ => true) true ts vs ds ps → DataW.TrodAll enc P W' 0 (fun b => decide (b < W.heap.size)) true ts vs ds ps
 | [], [], [], ps, _, h => h
 | t :: ts, v :: vs, d :: ds, ps, ht, ⟨p, q, h1, h2, h3⟩ => by
   rw [List.all_cons, Bool.and_eq_true, Bool.and_eq_true] at ht
   refine ⟨p, q, Below.trod hl ht.1.1 (of_decide_eq_true ht.1.2) h1 hb ?_, trodAll_back hl hb ht.2 h2, h3⟩
   obtain ⟨m, hm⟩ := h1
   exact DataW.trod_lt m _ _ _ hm
theorem AF.law {P : Program} {f : FuncId} {ps : List PV} (hA : AF P f ps (· = .val (.bool true))) {W : World} {vs : List Value} (hl : vs.length = ps.length) (hv : ∀ (i : Nat) (v : Value) (p : PV), vs[i]? = some v → ps[i]? = some p → Shr (fun _ => False) W v p) (hT : TabW W (fun _ => False) (fun _ => False)) :
 Calls P f vs.toArray W fun e w' => e = .returned (.bool true) ∧ Below W.heap.size W w' :=
 (hA (fun _ => False) W vs ⟨fun _ h => h.elim, fun _ => hT⟩ hl hv).mono fun e w' ⟨v, p, F, h1, h2, h3, h4, _⟩ => by
   subst h2
   have := (h4.sh rfl).vOf
   subst this
   exact ⟨h1, h3⟩
end
open Go.RowKit Go.Cb Go.ChangeShapes Go.WideShapes Go.ChangeAt
section
variable {P : Program} {t : TypeId}
theorem dec_struct5 {α β γ δ ε : Type} {f0 f1 f2 f3 f4 : Field} {k0 k1 k2 k3 k4 : Nat} {enc0 : α → List PV} {enc1 : β → List PV} {enc2 : γ → List PV} {enc3 : δ → List PV} {enc4 : ε → List PV} {fit0 : α → Prop} {fit1 : β → Prop} {fit2 : γ → Prop} {fit3 : δ → Prop} {fit4 : ε → Prop} (ht : P.underlying t = some (.struct #[f0, f1, f2, f3, f4])) (hs : P.cellsOf t = k0 + k1 + k2 + k3 + k4)
 (D0 : Dec P f0.type k0 enc0 fit0) (D1 : Dec P f1.type k1 enc1 fit1) (D2 : Dec P f2.type k2 enc2 fit2) (D3 : Dec P f3.type k3 enc3 fit3) (D4 : Dec P f4.type k4 enc4 fit4) (ho0 : f0.offset = 0) (ho1 : f1.offset = k0) (ho2 : f2.offset = k0 + k1) (ho3 : f3.offset = k0 + k1 + k2) (ho4 : f4.offset = k0 + k1 + k2 + k3) :
 Dec P t (k0 + k1 + k2 + k3 + k4) (fun x : α × β × γ × δ × ε => enc0 x.1 ++ (enc1 x.2.1 ++ (enc2 x.2.2.1 ++ (enc3 x.2.2.2.1 ++ enc4 x.2.2.2.2)))) (fun x => fit0 x.1 ∧ fit1 x.2.1 ∧ fit2 x.2.2.1 ∧ fit3 x.2.2.2.1 ∧ fit4 x.2.2.2.2) where
 size := hs
 len := fun x => by rw [List.length_append, List.length_append, List.length_append, List.length_append, D0.len, D1.len, D2.len, D3.len, D4.len]; omega
 dec := fun e w spare held fuel cs x h => by
  intro hwt
  obtain ⟨xs, n, _, rfl, hlen, hxl, hf⟩ := DataW.trod_struct ht h
  simp only [DataW.weights, ht] at hwt
  have g0 := hf 0 f0 rfl
  have g1 := hf 1 f1 rfl
  have g2 := hf 2 f2 rfl
  have g3 := hf 3 f3 rfl
  have g4 := hf 4 f4 rfl
  match xs, hxl with
  | [y0, y1, y2, y3, y4], _ =>
  rw [ho0] at g0
  rw [ho1] at g1
  rw [ho2] at g2
  rw [ho3] at g3
  rw [ho4] at g4
  obtain ⟨a, ha, A⟩ := dec_field D0 g0 (fun n hn => hwt n (weightsEach_mem P 0 (by simp) (by simp) hn))
  obtain ⟨b, hb, B⟩ := dec_field D1 g1 (fun n hn => hwt n (weightsEach_mem P 1 (by simp) (by simp) hn))
  obtain ⟨c, hc, C⟩ := dec_field D2 g2 (fun n hn => hwt n (weightsEach_mem P 2 (by simp) (by simp) hn))
  obtain ⟨d, hd, D⟩ := dec_field D3 g3 (fun n hn => hwt n (weightsEach_mem P 3 (by simp) (by simp) hn))
  obtain ⟨e', he, E⟩ := dec_field D4 g4 (fun n hn => hwt n (weightsEach_mem P 4 (by simp) (by simp) hn))
  refine ⟨(a, b, c, d, e'), ⟨ha, hb, hc, hd, he⟩, by rw [hlen, hs], split_at (D0.len a) (fun i v p hv hp => A i v p (by rw [Nat.zero_add]; exact hv) hp) fun i v p hv hp => ?_⟩
  refine split_at (cs := cs.drop k0) (D1.len b) (fun i v p hv hp => B i v p (by rw [List.getElem?_drop] at hv; exact hv) hp) (fun i v p hv hp => ?_) i v p (by rw [List.getElem?_drop]; exact hv) hp
  refine split_at (cs := cs.drop (k0 + k1)) (D2.len c) (fun i v p hv hp => C i v p (by rw [List.getElem?_drop] at hv; exact hv) hp) (fun i v p hv hp => ?_) i v p (by rw [List.getElem?_drop] at hv ⊢; rw [Nat.add_assoc]; exact hv) hp
  exact split_at (cs := cs.drop (k0 + k1 + k2)) (D3.len d) (fun i v p hv hp => D i v p (by rw [List.getElem?_drop] at hv; exact hv) hp) (fun i v p hv hp => E i v p (by rw [List.getElem?_drop, ← Nat.add_assoc] at hv; exact hv) hp) i v p (by rw [List.getElem?_drop] at hv ⊢; rw [Nat.add_assoc]; exact hv) hp
end
end Go.En
namespace Go.Proofs.YtgigclnaicbiaaaGreatDoor
open Go.RowKit Go.Cb Go.En Go.ChangeShapes Go.WideShapes Go.ChangeAt
set_option linter.all false
set_option maxRecDepth 100000
def fitI (n : Int) : Prop := -9223372036854775808 ≤ n ∧ n ≤ 9223372036854775807
def fitL (l : List Int) : Prop := l.length ≤ 140737488355328 ∧ ∀ n ∈ l, fitI n
def fitM (m : Mv) : Prop := fitI m.src ∧ fitI m.dst ∧ fitI m.sym
def fitMs (l : List Mv) : Prop := l.length ≤ 140737488355328 ∧ ∀ m ∈ l, fitM m
def fitA (a : Aut) : Prop := fitI a.n ∧ fitI a.syms ∧ fitL a.start ∧ fitL a.fin ∧ fitMs a.moves
theorem dInt : Dec Tryz.prog 3 1 (fun n : Int => [pInt n]) fitI := dec_int Tryz.underlying3 (by kernel_rfl)
theorem dInts : Dec Tryz.prog 22 1 (fun l => [pInts l]) fitL :=
 dec_map id (dec_slice Tryz.underlying22 (by kernel_rfl) (by decide) (Nat.le_of_ble_eq_true (by kernel_rfl)) dInt) (fun _ => rfl) (fun l => by show [PV.sl l.length (l.map pInt)] = _; rw [flat_one]) (fun _ h => h)
theorem dMv : Dec Tryz.prog 72 3 cMv fitM :=
 dec_map (fun x : Int × Int × Int => (⟨x.1, x.2.1, x.2.2⟩ : Mv)) (dec_struct3 Tryz.underlying72 (by kernel_rfl) dInt dInt dInt rfl rfl rfl) (fun _ => rfl) (fun _ => rfl) (fun _ h => h)
theorem dMvs : Dec Tryz.prog 23 1 (fun l => [pMvs l]) fitMs :=
 dec_map id (dec_slice Tryz.underlying23 (by kernel_rfl) (by decide) (Nat.le_of_ble_eq_true (by kernel_rfl)) dMv) (fun _ => rfl) (fun _ => rfl) (fun _ h => h)
theorem dAut : Dec Tryz.prog 25 5 cAut fitA :=
 dec_map (fun x : Int × Int × List Int × List Int × List Mv => (⟨x.1, x.2.1, x.2.2.1, x.2.2.2.1, x.2.2.2.2⟩ : Aut)) (dec_struct5 Tryz.underlying25 (by kernel_rfl) dInt dInt dInts dInts dMvs rfl rfl rfl rfl rfl) (fun _ => rfl) (fun _ => rfl) (fun _ h => h)
def autR : Except Int Aut → Aut
 | .ok a => a
 | .error _ => autZ
def errR : Except Int Aut → Int
 | .ok _ => 0
 | .error e => e
theorem resA_R (x : Except Int Aut) : resA x = .tup [pAut (autR x), pInt (errR x)] := by cases x <;> rfl
theorem resW_R {P : Program} {f : Nat} {ps : List PV} {x : Except Int Aut} (h : AF P f ps (· = resW x)) : AF P f ps (· = .tup [pAut (autR x), pInt (errR x)]) := by
 rw [← resA_R]; exact resW_A h
theorem lim_ml {x : Option Aut} (h : ∀ a, x = some a → a.moves.length ≤ 20000) : (autR (lim x)).moves.length ≤ 20000 := by
 cases x with
 | none => show (0 : Nat) ≤ 20000; omega
 | some a => exact h a rfl
theorem least_ml {t : Tab} {a : Aut} (h : leastT t = some a) : a.moves.length ≤ 20000 := by
 unfold leastT at h
 obtain ⟨q, _, h2⟩ := Option.bind_eq_some_iff.1 h
 split at h2
 · cases h2
 · rename_i h3
   cases h2
   show (movesT q.2).length ≤ 20000
   omega
theorem red_ml (a : Aut) : (autR (redX a)).moves.length ≤ 20000 := by
 unfold redX
 split
 · exact lim_ml fun a h => least_ml h
 · show (0 : Nat) ≤ 20000; omega
theorem great_ml {a : Aut} (h : greatA a = false) : a.moves.length ≤ 400 := by
 unfold greatA at h
 simp only [Bool.or_eq_false_iff, decide_eq_false_iff_not] at h
 omega
theorem great_two {a b : Aut} (h : ([a, b].any greatA) = false) : greatA a = false ∧ greatA b = false := by simpa using h
theorem r07Same_self (a : Aut) (h : a.moves.length ≤ 20000) : AF Tryz.prog 20 [pAut a, pAut a] (· = pBool true) := (r07Same_e a a (by omega) (by omega)).mono fun p hp => by rw [hp, decide_eq_true rfl]
open Go.RowKit Go.Cb Go.En
theorem tEl75_LhE : ElT Tryz.prog 75 25 5 88 (.agg #[(.int .i64 0), (.int .i64 0), (.slice none 0 0), (.slice none 0 0), (.slice none 0 0)]) := ⟨Tryz.underlying75, by kernel_rfl, rfl, by decide⟩
theorem tdiv_bd {c n : Int} (hc : 0 ≤ c) (hn : 0 < n) : 0 ≤ c.tdiv n ∧ c.tdiv n ≤ c := by
 rw [Int.tdiv_eq_ediv_of_nonneg hc]
 exact ⟨Int.ediv_nonneg hc (by omega), Int.ediv_le_self n hc⟩
theorem madeS_ml (a : Aut) : (autR (madeX a)).moves.length ≤ 20000 := by
 unfold madeX redL
 split
 · show (0 : Nat) ≤ 20000; omega
 · exact red_ml _
theorem shuf_ml (a b : Aut) : (autR (shufX a b)).moves.length ≤ 20000 := by
 unfold shufX
 split
 · show (0 : Nat) ≤ 20000; omega
 · split
   · show (0 : Nat) ≤ 20000; omega
   · exact madeS_ml _
set_option maxHeartbeats 4000000 in
theorem autShuffles_c (a b u : Aut) (e : Int) (hu : u.moves.length ≤ 20000)
 (c1 : AF Tryz.prog 37 [pAut a, pAut b] (· = .tup [pAut u, pInt e])) (c2 : a.moves.length ≤ 1000000 → b.moves.length ≤ 1000000 → AF Tryz.prog 38 [pAut a, pAut b] (· = .tup [pAut u, pInt e])) : AF Tryz.prog 8 [pAut a, pAut b] (· = pBool true) := by
 refine AF.of_body 56 Tryz.func8 rfl Tryz.ntmps8 (Nat.le_of_ble_eq_true rfl) ?_
 intro w0 M0 vs hl hv
 obtain ⟨v0, v1, rfl⟩ := len2 hl
 clear hl hv
 refine nav ?_
 (refine aC_region ?_ <;> refine s_boxa 2 5 fun h2 => ?_ <;> refine s_boxa 3 5 fun h3 => ?_ <;> refine xL 4 q_assign ?_ <;> refine aL_end (nav ?_) <;> try dsimp only)
 (refine aC_region ?_ <;> (refine cS 9 (cA Tryz.call13 (awake07_e)) fun v9 hv9 => ?_; cases hv9) <;> refine xL 10 q_not ?_ <;> refine aL_end (nav ?_) <;> try dsimp only)
 (first | refine cCd ?_ ?_ | refine cC ?_ ?_) <;> intro hb10
 · first
   | exact Bool.noConfusion hb10
   | (
    refine nav ?_
    (refine aC_region ?_ <;> refine xL 4 q_assign ?_ <;> refine aL_end (nav ?_) <;> try dsimp only)
    exfalso; simp at hb10)
 · first
   | exact Bool.noConfusion hb10
   | (
    refine nav ?_
    (refine aC_draw (fun i => ([] : List Nat).elem i) [2, 3] (by kernel_rfl) ?_ <;> (refine yD 0 11 rfl (q_ldao 2 tAgg25_LdS) fun v11 hv11 => ?_; cases hv11) <;> (refine yE 1 12 rfl (q_ldao 3 tAgg25_LdS) fun v12 hv12 => ?_; cases hv12) <;> (refine aD_one 2 (by kernel_rfl) ?_) <;> (refine aW_run rfl fun w9 M9 N9 DQ back => ?_) <;> (refine s_lita (kk := 5) (xs := [_, _]) (cs := [[_, _, _, _, _], [_, _, _, _, _]]) 13 tEl75_LhE fun h13 ho13 => ?_; refine aL_ent (En.freeze (l := 13) (t := 13) rfl rfl) fun _ => ?_; refine aL_ent (reslot (t := 13) (p' := .sl [a, b].length ([a, b].flatMap cAut)) rfl rfl) fun _ => ?_) <;> refine aL_end (back _ (nrm ?_)) <;> (refine aD_one 3 (by kernel_rfl) ?_) <;> (refine aW_run rfl fun w9 M9 N9 DQ back => ?_) <;> (refine cS 14 (cA Tryz.call14 (great07_e [a, b])) fun v14 hv14 => ?_; cases hv14) <;> refine aL_end (back _ (nrm ?_)) <;> refine xE 4 15 rfl q_move ?_ <;> (refine bD 15 (fun hb15 => ?_) (fun hb15 => ?_) <;> (first | refine kD 5 16 rfl ?_ | refine xD 5 16 rfl (q_fldo 2 tFl25_0_LdI) ?_)) <;> (first | refine kD 6 17 rfl ?_ | (refine yD 6 17 rfl (q_ldo 2 tNa3_LbB) fun v17 hv17 => ?_; cases hv17)) <;> (first | refine kD 7 18 rfl ?_ | refine xD 7 18 rfl q_gtr ?_) <;> (first | refine kD 8 19 rfl ?_ | refine xD 8 19 rfl q_move ?_) <;> (first | refine kD 9 20 rfl ?_ | (refine bDd 19 (fun hb19 => ?_) (fun hb19 => ?_) <;> (first | refine kD 9 20 rfl ?_ | refine xD 9 20 rfl (q_fldo 3 tFl25_0_LdI) ?_))) <;> (first | refine kD 10 21 rfl ?_ | (refine yD 10 21 rfl (q_ldo 3 tNa3_LbB) fun v21 hv21 => ?_; cases hv21)) <;> (first | refine kD 11 22 rfl ?_ | refine xD 11 22 rfl (q_fldo 2 tFl25_0_LdI) ?_) <;> (first | refine kD 12 23 rfl ?_ | (refine yD 12 23 rfl (q_ldo 2 tNa3_LbB) fun v23 hv23 => ?_; cases hv23)) <;> (first | refine kD 13 24 rfl ?_ | (refine xD 13 24 rfl (q_quo ((100 : Int).tdiv a.n) rfl (by have := tdiv_bd (c := 100) (n := a.n) (by omega) (by omega); omega) (by have := tdiv_bd (c := 100) (n := a.n) (by omega) (by omega); omega)) ?_)) <;> (first | refine kD 14 25 rfl ?_ | refine xD 14 25 rfl q_gtr ?_) <;> (first | refine kD 15 26 rfl ?_ | refine xD 15 26 rfl q_pick ?_) <;> (first | refine kD 16 27 rfl ?_ | refine xD 16 27 rfl q_move ?_) <;> (first | refine kD 17 28 rfl ?_ | (refine bDd 27 (fun hb27 => ?_) (fun hb27 => ?_) <;> (first | refine kD 17 28 rfl ?_ | refine xD 17 28 rfl (q_fldo 3 tFl25_0_LdI) ?_))) <;> (first | refine kD 18 29 rfl ?_ | (refine yD 18 29 rfl (q_ldo 3 tNa3_LbB) fun v29 hv29 => ?_; cases hv29)) <;> (first | refine kD 19 30 rfl ?_ | refine xD 19 30 rfl (q_fldo 2 tFl25_0_LdI) ?_) <;> (first | refine kD 20 31 rfl ?_ | (refine yD 20 31 rfl (q_ldo 2 tNa3_LbB) fun v31 hv31 => ?_; cases hv31)) <;> (first | refine kD 21 32 rfl ?_ | (refine xD 21 32 rfl (q_quo ((2000 : Int).tdiv a.n) rfl (by have := tdiv_bd (c := 2000) (n := a.n) (by omega) (by omega); omega) (by have := tdiv_bd (c := 2000) (n := a.n) (by omega) (by omega); omega)) ?_)) <;> (first | refine kD 22 33 rfl ?_ | refine xD 22 33 rfl q_leq ?_) <;> (first | refine kD 23 34 rfl ?_ | refine xD 23 34 rfl q_pick ?_) <;> refine xE 24 35 rfl q_pick ?_ <;> refine aD_end (by kernel_rfl) (nav ?_) <;> try dsimp only) <;> (
     (first | refine cCd ?_ ?_ | refine cC ?_ ?_) <;> intro hb35
     · first
       | exact Bool.noConfusion hb35
       | (
        refine nav ?_
        (refine aC_region ?_ <;> refine xL 4 q_assign ?_ <;> refine aL_end (nav ?_) <;> try dsimp only)
        exact ret_shr (Tryz.results8) rfl rfl)
     · first
       | exact Bool.noConfusion hb35
       | (
        refine nav ?_
        have hmla := great_ml (great_two hb15).1
        have hmlb := great_ml (great_two hb15).2
        (refine aC_region ?_ <;> (refine yL 37 (q_ldao 2 tAgg25_LdS) fun v37 hv37 => ?_; cases hv37) <;> (refine yL 38 (q_ldao 3 tAgg25_LdS) fun v38 hv38 => ?_; cases hv38) <;> (refine cP 39 (cA Tryz.call37 (c1)) fun va39 vb39 hva39 hvb39 => ?_; cases hvb39) <;> refine xL 36 q_move ?_ <;> refine xL 40 q_extract ?_ <;> refine xL 41 q_extract ?_ <;> refine s_alloc [(.int .i64 0), (.int .i64 0), (.slice none 0 0), (.slice none 0 0), (.slice none 0 0)] 5 5 tZr25_LfD fun h5 => ?_ <;> refine s_sta 5 tAgg25_LdS ?_ <;> refine xL 6 q_assign ?_ <;> refine aL_end (nav ?_) <;> try dsimp only)
        (refine aC_region ?_ <;> (refine yL 43 (q_ldao 2 tAgg25_LdS) fun v43 hv43 => ?_; cases hv43) <;> (refine yL 44 (q_ldao 3 tAgg25_LdS) fun v44 hv44 => ?_; cases hv44) <;> (refine cP 45 (cA Tryz.call38 ((c2 (by omega) (by omega)))) fun va45 vb45 hva45 hvb45 => ?_; cases hvb45) <;> refine xL 42 q_move ?_ <;> refine xL 46 q_extract ?_ <;> refine xL 47 q_extract ?_ <;> refine s_alloc [(.int .i64 0), (.int .i64 0), (.slice none 0 0), (.slice none 0 0), (.slice none 0 0)] 5 7 tZr25_LfD fun h7 => ?_ <;> refine s_sta 7 tAgg25_LdS ?_ <;> refine xL 8 q_assign ?_ <;> refine aL_end (nav ?_) <;> try dsimp only)
        (refine aC_region ?_ <;> refine xL 48 q_move ?_ <;> refine xL 49 q_move ?_ <;> refine xL 50 q_eqlT ?_ <;> refine xL 51 q_move ?_ <;> (refine yL 52 (q_ldao 5 tAgg25_LdS) fun v52 hv52 => ?_; cases hv52) <;> (refine yL 53 (q_ldao 7 tAgg25_LdS) fun v53 hv53 => ?_; cases hv53) <;> (refine cS 54 (cA Tryz.call20 (r07Same_self _ hu)) fun v54 hv54 => ?_; cases hv54) <;> refine xL 55 q_pick ?_ <;> refine xL 4 q_assign ?_ <;> refine aL_end (nav ?_) <;> try dsimp only) <;> (
         exact ret_shr (Tryz.results8) rfl rfl))))
theorem autShuffles_e (a b : Aut) (_ : fitA a) (_ : fitA b) : AF Tryz.prog 8 [pAut a, pAut b] (· = pBool true) :=
 autShuffles_c a b _ _ (shuf_ml a b) (resW_R (aShuffle_e a b)) (fun h h' => resW_R (r07Shuffle_e a b h h'))
end Go.Proofs.YtgigclnaicbiaaaGreatDoor
