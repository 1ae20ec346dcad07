/-
  Walks: the reference's automata: distances, the words up to a length.
-/
import Derived.Test.YtebcjijpdhbcdaaGreatMLdU
import Derived.Test.YtebcjijpdhbcdaaGreatMLdS
namespace Go.Proofs.YtebcjijpdhbcdaaGreat
open Go.RowKit Go.Cb Go.En
set_option linter.all false
set_option maxRecDepth 100000

theorem tAgg126_LdV : AggT Tryz.prog 126 3 = true := by kernel_rfl
theorem tEl63_LdV : ElT Tryz.prog 63 3 1 8 (.int .i64 0) := ⟨Tryz.underlying63, by kernel_rfl, rfl, by decide⟩
theorem tFl126_0_LdV : FldT Tryz.prog 126 0 0 = true := by kernel_rfl
theorem tFl126_1_LdV : FldT Tryz.prog 126 1 1 = true := by kernel_rfl
theorem tFl126_2_LdV : FldT Tryz.prog 126 2 2 = true := by kernel_rfl
theorem tFl66_0_LdV : FldT Tryz.prog 66 0 0 = true := by kernel_rfl
theorem tFl66_3_LdV : FldT Tryz.prog 66 3 3 = true := by kernel_rfl
theorem tFl66_4_LdV : FldT Tryz.prog 66 4 4 = true := by kernel_rfl
theorem tNa3_LdV : NoAgg Tryz.prog 3 = true := by kernel_rfl
theorem tNa63_LdV : NoAgg Tryz.prog 63 = true := by kernel_rfl
theorem tNa64_LdV : NoAgg Tryz.prog 64 = true := by kernel_rfl
theorem tSl63_LdV : SlT Tryz.prog 63 3 1 = true := by kernel_rfl
theorem tSl64_LdV : SlT Tryz.prog 64 126 3 = true := by kernel_rfl
theorem tSz3_LdV : (Tryz.prog.info? 3).map (·.size) = some 1 := by kernel_rfl
theorem tZr126_LdV : ZeroT Tryz.prog 126 (.agg #[(.int .i64 0), (.int .i64 0), (.int .i64 0)]) := by unfold ZeroT; kernel_rfl

def FinJ (a : Aut) (k : Nat) (L : List Int) : Prop := L.length = a.n.toNat ∧ ∀ s, s < k → L[s]? = some (if finB a (s : Nat) then 0 else -1)
theorem FinJ.step {a : Aut} {k : Nat} {L : List Int} {d : Int} (h : FinJ a k L) (hk : k < a.n.toNat) (hd : d = if finB a (k : Nat) then 0 else -1) : FinJ a (k + 1) (L.set k d) := by
  refine ⟨by rw [List.length_set]; exact h.1, fun s hs => ?_⟩
  by_cases e : k = s
  · subst e
    rw [List.getElem?_set_self (by rw [h.1]; exact hk), hd]
  · rw [List.getElem?_set_ne e]; exact h.2 s (by omega)
theorem FinJ.done {a : Aut} {k : Nat} {L : List Int} (h : FinJ a k L) (hk : a.n.toNat ≤ k) : L = farAt a 0 := by
  apply List.ext_getElem?
  intro s
  rcases Nat.lt_or_ge s a.n.toNat with hs | hs
  · rw [h.2 s (by omega), show (farAt a 0)[s]? = _ from farInit_at hs]
  · rw [List.getElem?_eq_none (by rw [h.1]; exact hs), List.getElem?_eq_none (by rw [(farAt_ok a 0).len]; exact hs)]
set_option maxHeartbeats 2000000 in
theorem r07distances_e (a : Aut) (h : AOk a) : AF Tryz.prog 107 [pAut a] (· = .own 3 1 a.n.toNat ((farL a).map pInt)) := by
  have hn0 := h.n0
  have hn1 := h.n1
  have hml := h.ml
  rw [pAut_n h.n0]
  refine AF.of_body 85 Tryz.func107 rfl Tryz.ntmps107 (Nat.le_of_ble_eq_true rfl) ?_
  intro w0 M0 vs hl hv
  obtain ⟨v0, rfl⟩ := len1 hl
  clear hl hv
  refine nav ?_
  (refine aC_region ?_
    <;> refine s_boxa 1 5 fun h1 => ?_
    <;> refine xL 2 q_assign ?_
    <;> refine aL_end (nav ?_) <;> try dsimp only)
  (refine aC_region ?_
    <;> refine xL 9 (q_fldo 1 tFl66_0_LdV) ?_
    <;> (refine yL 10 (q_ldo 1 tNa3_LdV) fun v10 hv10 => ?_; cases hv10)
    <;> refine s_make 11 tEl63_LdV fun h11 ho11 => ?_
    <;> refine xL 3 q_assign ?_
    <;> refine aL_end (nav ?_) <;> try dsimp only)
  rw [show List.replicate a.n.toNat (PV.val (.int .i64 0)) = (List.replicate a.n.toNat (0 : Int)).map pInt by rw [List.map_replicate]]
  (refine aC_region ?_
    <;> refine xL 4 q_assign ?_
    <;> refine aL_end (nav ?_) <;> try dsimp only)
  refine aC_loop (ι := { q : Nat × List Int // q.1 ≤ a.n.toNat ∧ FinJ a q.1 q.2 }) (fun k => ⟨[(1, _, _), (2, _, _), (3, _, _), (4, .int .i64 k.1.1, pInt k.1.1)], [(1, _, _), (11, h11, .own 3 1 a.n.toNat (k.1.2.map pInt))]⟩) (fun k => a.n.toNat - k.1.1) ⟨(0, List.replicate a.n.toNat 0), Nat.zero_le _, List.length_replicate, fun j hj => by omega⟩ (fun a w H => H.weaken ⟨rfl, rfl, rfl, rfl, trivial⟩ ⟨rfl, rfl, trivial⟩) ?_
  rintro ⟨⟨k, L⟩, hk, hF⟩
  dsimp only
  dsimp only at hk hF
  have hLm : (L.map pInt).length = a.n.toNat := by rw [List.length_map]; exact hF.1
  have hLm3 : ((L.map pInt).set (k * 1) (PV.val (Value.int IntKind.i64 (-1)))).length = a.n.toNat := by rw [List.length_set]; exact hLm
  refine nav ?_
  (refine aC_region ?_
    <;> refine xL 12 q_move ?_
    <;> refine xL 13 (q_fldo 1 tFl66_0_LdV) ?_
    <;> (refine yL 14 (q_ldo 1 tNa3_LdV) fun v14 hv14 => ?_; cases hv14)
    <;> refine xL 15 q_lss ?_
    <;> refine aL_end (nav ?_) <;> try dsimp only)
  first | refine cCd (fun hb15 => ?_) (fun hb15 => ?_) | refine cC (fun hb15 => ?_) (fun hb15 => ?_)
  · first
    | exact Bool.noConfusion hb15
    | (
     refine nav ?_
     (refine aC_region ?_
       <;> refine xL 18 q_move ?_
       <;> refine xL 19 q_move ?_
       <;> refine xL 20 (q_idxoN 11 tSl63_LdV) ?_
       <;> refine s_st 11 tNa3_LdV tSz3_LdV ?_
       <;> refine aL_end (nav ?_) <;> try dsimp only)
     (refine aC_region ?_
       <;> refine xL 21 (q_fldo 1 tFl66_3_LdV) ?_
       <;> (refine yL 22 (q_ldo 1 tNa63_LdV) fun v22 hv22 => ?_; cases hv22)
       <;> refine xL 23 q_move ?_
       <;> (refine cS 24 (cA Tryz.call133 (r07has_e a.fin k)) fun v24 hv24 => ?_; cases hv24)
       <;> refine aL_end (nav ?_) <;> try dsimp only)
     first | refine cCd (fun hb24 => ?_) (fun hb24 => ?_) | refine cC (fun hb24 => ?_) (fun hb24 => ?_)
     · first
       | exact Bool.noConfusion hb24
       | (
        refine nav ?_
        (refine aC_region ?_
          <;> refine xL 25 q_move ?_
          <;> refine xL 26 q_move ?_
          <;> refine xL 27 (q_idxoN 11 tSl63_LdV) ?_
          <;> refine s_st 11 tNa3_LdV tSz3_LdV ?_
          <;> refine aL_end (nav ?_) <;> try dsimp only)
        (refine aC_region ?_
          <;> refine xL 16 q_move ?_
          <;> refine xL 17 q_add ?_
          <;> refine xL 4 q_assign ?_
          <;> refine aL_end (nav ?_) <;> try dsimp only)
        simp only [Nat.mul_one, ← List.map_set, List.set_set]
        first
          | (exact aN_again (
              ⟨(k + 1, L.set k 0), by dsimp only; omega, hF.step (by omega) (by rw [if_pos (show finB a (k : Nat) = true from hb24)])⟩
              ) (by dsimp only; omega) ⟨rfl, rfl, rfl, rfl, trivial⟩ ⟨rfl, rfl, trivial⟩)
          | (exact aN_again (
              ⟨(k + 1, L.set k (-1)), by dsimp only; omega, hF.step (by omega) (by rw [if_neg (fun hh => by have h9 : hasI a.fin k = true := hh; first | exact hb24 h9 | (rw [h9] at hb24; exact absurd hb24 (by decide)))])⟩
              ) (by dsimp only; omega) ⟨rfl, rfl, rfl, rfl, trivial⟩ ⟨rfl, rfl, trivial⟩))
     · first
       | exact Bool.noConfusion hb24
       | (
        refine nav ?_
        (refine aC_region ?_
          <;> refine xL 16 q_move ?_
          <;> refine xL 17 q_add ?_
          <;> refine xL 4 q_assign ?_
          <;> refine aL_end (nav ?_) <;> try dsimp only)
        simp only [Nat.mul_one, ← List.map_set, List.set_set]
        first
          | (exact aN_again (
              ⟨(k + 1, L.set k 0), by dsimp only; omega, hF.step (by omega) (by rw [if_pos (show finB a (k : Nat) = true from hb24)])⟩
              ) (by dsimp only; omega) ⟨rfl, rfl, rfl, rfl, trivial⟩ ⟨rfl, rfl, trivial⟩)
          | (exact aN_again (
              ⟨(k + 1, L.set k (-1)), by dsimp only; omega, hF.step (by omega) (by rw [if_neg (fun hh => by have h9 : hasI a.fin k = true := hh; first | exact hb24 h9 | (rw [h9] at hb24; exact absurd hb24 (by decide)))])⟩
              ) (by dsimp only; omega) ⟨rfl, rfl, rfl, rfl, trivial⟩ ⟨rfl, rfl, trivial⟩)))
  · first
    | exact Bool.noConfusion hb15
    | (
     have hF9 := hF.done (by omega)
     subst hF9
     refine nav ?_
     (refine aC_region ?_
       <;> refine xL 5 q_assign ?_
       <;> refine aL_end (nav ?_) <;> try dsimp only)
     refine aC_loop (ι := { q : Nat × Bool // q.2 = false → passF a.moves (farAt a q.1) = farAt a q.1 }) (fun k => ⟨[(1, _, _), (2, _, _), (3, _, _), (5, .bool k.1.2, pBool k.1.2)], [(1, _, _), (11, h11, .own 3 1 a.n.toNat ((farAt a k.1.1).map pInt))]⟩) (fun k => sumF a.n.toNat (farAt a k.1.1) + (if k.1.2 then 1 else 0)) ⟨(0, true), fun h => Bool.noConfusion h⟩ (fun a w H => H.weaken ⟨rfl, rfl, rfl, rfl, trivial⟩ ⟨rfl, rfl, trivial⟩) ?_
     rintro ⟨⟨j, ag⟩, hag⟩
     dsimp only
     dsimp only at hag
     refine nav ?_
     (refine aC_region ?_
       <;> refine xL 28 q_move ?_
       <;> refine aL_end (nav ?_) <;> try dsimp only)
     first | refine cCd (fun hb28 => ?_) (fun hb28 => ?_) | refine cC (fun hb28 => ?_) (fun hb28 => ?_)
     · first
       | exact Bool.noConfusion hb28
       | (
        refine nav ?_
        (refine aC_region ?_
          <;> refine xL 5 q_assign ?_
          <;> refine aL_end (nav ?_) <;> try dsimp only)
        (refine aC_region ?_
          <;> refine xL 6 q_assign ?_
          <;> refine aL_end (nav ?_) <;> try dsimp only)
        refine aC_loop (ι := { q : Nat × List Int × Bool // q.1 ≤ a.moves.length ∧ PassI a (farAt a j) q.2.1 q.2.2 q.1 }) (fun k => ⟨[(1, _, _), (2, _, _), (3, _, _), (5, .bool k.1.2.2, pBool k.1.2.2), (6, .int .i64 k.1.1, pInt k.1.1)], [(1, _, _), (11, h11, .own 3 1 a.n.toNat (k.1.2.1.map pInt))]⟩) (fun k => a.moves.length - k.1.1) ⟨(0, farAt a j, false), Nat.zero_le _, PassI.start (farAt_ok a j)⟩ (fun a w H => H.weaken ⟨rfl, rfl, rfl, rfl, rfl, trivial⟩ ⟨rfl, rfl, trivial⟩) ?_
        rintro ⟨⟨i, L2, fl⟩, hi, hP⟩
        dsimp only
        dsimp only at hi hP
        refine nav ?_
        (refine aC_region ?_
          <;> refine xL 29 q_move ?_
          <;> refine xL 30 (q_fldo 1 tFl66_4_LdV) ?_
          <;> (refine yL 31 (q_ldo 1 tNa64_LdV) fun v31 hv31 => ?_; cases hv31)
          <;> refine xL 32 (q_len tSl64_LdV) ?_
          <;> refine xL 33 q_lss ?_
          <;> refine aL_end (nav ?_) <;> try dsimp only)
        first | refine cCd (fun hb33 => ?_) (fun hb33 => ?_) | refine cC (fun hb33 => ?_) (fun hb33 => ?_)
        · first
          | exact Bool.noConfusion hb33
          | (
           obtain ⟨m, hm⟩ := get_some (show i < a.moves.length by omega)
           have e1 := flat_drop cMv_len a.moves i m hm
           have e2 := flat_fit cMv_len hm
           have hmv := h.mv m (List.mem_of_getElem? hm)
           have hLl := hP.ok.len
           obtain ⟨d, hd⟩ := get_some (show m.dst.toNat < L2.length by omega)
           obtain ⟨e, he⟩ := get_some (show m.src.toNat < L2.length by omega)
           have hdb := far_bd hP.ok hd
           have heb := far_bd hP.ok he
           have e3 := map_at (f := pInt) hd
           have e4 := map_at (f := pInt) he
           have hLm2 : (L2.map pInt).length = a.n.toNat := by rw [List.length_map]; exact hLl
           refine nav ?_
           (refine aC_region ?_
             <;> refine xL 36 (q_fldo 1 tFl66_4_LdV) ?_
             <;> (refine yL 37 (q_ldo 1 tNa64_LdV) fun v37 hv37 => ?_; cases hv37)
             <;> refine xL 38 q_move ?_
             <;> refine xL 39 (q_idxN tSl64_LdV) ?_
             <;> (refine yL 40 (q_lda tAgg126_LdV) fun v40 hv40 => ?_; cases hv40)
             <;> refine s_alloc [(.int .i64 0), (.int .i64 0), (.int .i64 0)] 3 7 tZr126_LdV fun h7 => ?_
             <;> refine s_sta 7 tAgg126_LdV ?_
             <;> refine aL_end (nav ?_) <;> try dsimp only)
           (refine aC_region ?_
             <;> refine xL 8 q_assign ?_
             <;> refine aL_end (nav ?_) <;> try dsimp only)
           (refine aC_region ?_
             <;> refine xL 41 (q_fldo 7 tFl126_2_LdV) ?_
             <;> (refine yL 42 (q_ldo 7 tNa3_LdV) fun v42 hv42 => ?_; cases hv42)
             <;> refine xL 43 q_lss ?_
             <;> refine aL_end (nav ?_) <;> try dsimp only)
           first | refine cCd (fun hb43 => ?_) (fun hb43 => ?_) | refine cC (fun hb43 => ?_) (fun hb43 => ?_)
           · first
             | exact Bool.noConfusion hb43
             | (
              refine nav ?_
              (refine aC_region ?_
                <;> refine xL 8 q_assign ?_
                <;> refine aL_end (nav ?_) <;> try dsimp only)
              (refine aC_draw (fun i => ([] : List Nat).elem i) [1, 7, 11] (by kernel_rfl) ?_
                <;> refine xD 0 44 rfl q_move ?_
                <;> refine xE 1 45 rfl (q_fldo 7 tFl126_1_LdV) ?_
                <;> (refine yE 2 46 rfl (q_ldo 7 tNa3_LdV) fun v46 hv46 => ?_; cases hv46)
                <;> refine xE 3 47 rfl (q_idxo 11 tSl63_LdV) ?_
                <;> (refine yE 4 48 rfl (q_ldo 11 tNa3_LdV) fun v48 hv48 => ?_; cases hv48)
                <;> refine xE 5 49 rfl q_geq ?_
                <;> refine xE 6 50 rfl q_move ?_
                <;> (refine bDd 50 (fun hb50 => ?_) (fun hb50 => ?_) <;> (first | refine kD 7 51 rfl ?_ | refine xD 7 51 rfl q_move ?_))
                <;> (first | refine kD 8 52 rfl ?_ | refine xD 8 52 rfl (q_fldo 7 tFl126_0_LdV) ?_)
                <;> (first | refine kD 9 53 rfl ?_ | (refine yD 9 53 rfl (q_ldo 7 tNa3_LdV) fun v53 hv53 => ?_; cases hv53))
                <;> (first | refine kD 10 54 rfl ?_ | refine xD 10 54 rfl (q_idxo 11 tSl63_LdV) ?_)
                <;> (first | refine kD 11 55 rfl ?_ | (refine yD 11 55 rfl (q_ldo 11 tNa3_LdV) fun v55 hv55 => ?_; cases hv55))
                <;> (first | refine kD 12 56 rfl ?_ | refine xD 12 56 rfl q_lss ?_)
                <;> (first | refine kD 13 57 rfl ?_ | refine xD 13 57 rfl q_move ?_)
                <;> (first | refine kD 14 58 rfl ?_ | (refine bDd 57 (fun hb57 => ?_) (fun hb57 => ?_) <;> (first | refine kD 14 58 rfl ?_ | refine xD 14 58 rfl q_move ?_)))
                <;> (first | refine kD 15 59 rfl ?_ | refine xD 15 59 rfl (q_fldo 7 tFl126_0_LdV) ?_)
                <;> (first | refine kD 16 60 rfl ?_ | (refine yD 16 60 rfl (q_ldo 7 tNa3_LdV) fun v60 hv60 => ?_; cases hv60))
                <;> (first | refine kD 17 61 rfl ?_ | refine xD 17 61 rfl (q_idxo 11 tSl63_LdV) ?_)
                <;> (first | refine kD 18 62 rfl ?_ | (refine yD 18 62 rfl (q_ldo 11 tNa3_LdV) fun v62 hv62 => ?_; cases hv62))
                <;> (first | refine kD 19 63 rfl ?_ | refine xD 19 63 rfl q_move ?_)
                <;> (first | refine kD 20 64 rfl ?_ | refine xD 20 64 rfl (q_fldo 7 tFl126_1_LdV) ?_)
                <;> (first | refine kD 21 65 rfl ?_ | (refine yD 21 65 rfl (q_ldo 7 tNa3_LdV) fun v65 hv65 => ?_; cases hv65))
                <;> (first | refine kD 22 66 rfl ?_ | refine xD 22 66 rfl (q_idxo 11 tSl63_LdV) ?_)
                <;> (first | refine kD 23 67 rfl ?_ | (refine yD 23 67 rfl (q_ldo 11 tNa3_LdV) fun v67 hv67 => ?_; cases hv67))
                <;> (first | refine kD 24 68 rfl ?_ | refine xD 24 68 rfl q_move ?_)
                <;> (first | refine kD 25 69 rfl ?_ | refine xD 25 69 rfl q_add ?_)
                <;> (first | refine kD 26 70 rfl ?_ | refine xD 26 70 rfl q_gtr ?_)
                <;> (first | refine kD 27 71 rfl ?_ | refine xD 27 71 rfl q_pick ?_)
                <;> refine xE 28 72 rfl q_pick ?_
                <;> refine aD_end (by kernel_rfl) (nav ?_)
                <;> try dsimp only) <;> (
               first | refine cCd (fun hb72 => ?_) (fun hb72 => ?_) | refine cC (fun hb72 => ?_) (fun hb72 => ?_)
               · first
                 | exact Bool.noConfusion hb72
                 | (
                  refine nav ?_
                  (refine aC_draw (fun i => ([11] : List Nat).elem i) [1, 7, 11] (by kernel_rfl) ?_
                    <;> refine xD 0 73 rfl q_move ?_
                    <;> refine xD 1 74 rfl (q_fldo 7 tFl126_0_LdV) ?_
                    <;> (refine yD 2 75 rfl (q_ldo 7 tNa3_LdV) fun v75 hv75 => ?_; cases hv75)
                    <;> refine xD 3 76 rfl q_move ?_
                    <;> refine xD 4 77 rfl (q_fldo 7 tFl126_1_LdV) ?_
                    <;> (refine yD 5 78 rfl (q_ldo 7 tNa3_LdV) fun v78 hv78 => ?_; cases hv78)
                    <;> refine xD 6 79 rfl (q_idxo 11 tSl63_LdV) ?_
                    <;> (refine yD 7 80 rfl (q_ldo 11 tNa3_LdV) fun v80 hv80 => ?_; cases hv80)
                    <;> refine xE 8 81 rfl q_move ?_
                    <;> refine xE 9 82 rfl q_add ?_
                    <;> refine xE 10 83 rfl (q_idxo 11 tSl63_LdV) ?_
                    <;> (refine aD_one 11 (by kernel_rfl) ?_)
                    <;> (refine aW_last rfl rfl (by kernel_rfl) fun DQ back => ?_)
                    <;> refine s_st 11 tNa3_LdV tSz3_LdV ?_
                    <;> refine aL_end (back _ (nav ?_))
                    <;> try dsimp only)
                  (refine aC_region ?_
                    <;> refine xL 5 q_assign ?_
                    <;> refine aL_end (nav ?_) <;> try dsimp only)
                  (refine aC_region ?_
                    <;> refine xL 34 q_move ?_
                    <;> refine xL 35 q_add ?_
                    <;> refine xL 6 q_assign ?_
                    <;> refine aL_end (nav ?_) <;> try dsimp only)
                  try rw [Nat.mul_one, ← List.map_set]
                  first
                    | (exact aN_again (
                        ⟨(i + 1, L2.set m.src.toNat (d + 1), true), lt_of_get hm, hP.set hm hd he (by omega) (by omega) (by unfold stepD; rw [if_pos (by omega)])⟩
                        ) (by dsimp only; omega) ⟨rfl, rfl, rfl, rfl, rfl, trivial⟩ ⟨rfl, rfl, trivial⟩)
                    | (exact aN_again (
                        ⟨(i + 1, L2.set m.src.toNat (d + 0), true), lt_of_get hm, hP.set hm hd he (by omega) (by omega) (by unfold stepD; rw [if_neg (by omega)]; omega)⟩
                        ) (by dsimp only; omega) ⟨rfl, rfl, rfl, rfl, rfl, trivial⟩ ⟨rfl, rfl, trivial⟩)
                    | (exact aN_again (
                        ⟨(i + 1, L2, fl), lt_of_get hm, hP.skip hm hd he (by unfold stepD; first | omega | (rw [if_pos (by omega)]; omega) | (rw [if_neg (by omega)]; omega))⟩
                        ) (by dsimp only; omega) ⟨rfl, rfl, rfl, rfl, rfl, trivial⟩ ⟨rfl, rfl, trivial⟩))
               · first
                 | exact Bool.noConfusion hb72
                 | (
                  refine nav ?_
                  (refine aC_region ?_
                    <;> refine xL 34 q_move ?_
                    <;> refine xL 35 q_add ?_
                    <;> refine xL 6 q_assign ?_
                    <;> refine aL_end (nav ?_) <;> try dsimp only)
                  try rw [Nat.mul_one, ← List.map_set]
                  first
                    | (exact aN_again (
                        ⟨(i + 1, L2.set m.src.toNat (d + 1), true), lt_of_get hm, hP.set hm hd he (by omega) (by omega) (by unfold stepD; rw [if_pos (by omega)])⟩
                        ) (by dsimp only; omega) ⟨rfl, rfl, rfl, rfl, rfl, trivial⟩ ⟨rfl, rfl, trivial⟩)
                    | (exact aN_again (
                        ⟨(i + 1, L2.set m.src.toNat (d + 0), true), lt_of_get hm, hP.set hm hd he (by omega) (by omega) (by unfold stepD; rw [if_neg (by omega)]; omega)⟩
                        ) (by dsimp only; omega) ⟨rfl, rfl, rfl, rfl, rfl, trivial⟩ ⟨rfl, rfl, trivial⟩)
                    | (exact aN_again (
                        ⟨(i + 1, L2, fl), lt_of_get hm, hP.skip hm hd he (by unfold stepD; first | omega | (rw [if_pos (by omega)]; omega) | (rw [if_neg (by omega)]; omega))⟩
                        ) (by dsimp only; omega) ⟨rfl, rfl, rfl, rfl, rfl, trivial⟩ ⟨rfl, rfl, trivial⟩))))
           · first
             | exact Bool.noConfusion hb43
             | (
              refine nav ?_
              (refine aC_draw (fun i => ([] : List Nat).elem i) [1, 7, 11] (by kernel_rfl) ?_
                <;> refine xD 0 44 rfl q_move ?_
                <;> refine xE 1 45 rfl (q_fldo 7 tFl126_1_LdV) ?_
                <;> (refine yE 2 46 rfl (q_ldo 7 tNa3_LdV) fun v46 hv46 => ?_; cases hv46)
                <;> refine xE 3 47 rfl (q_idxo 11 tSl63_LdV) ?_
                <;> (refine yE 4 48 rfl (q_ldo 11 tNa3_LdV) fun v48 hv48 => ?_; cases hv48)
                <;> refine xE 5 49 rfl q_geq ?_
                <;> refine xE 6 50 rfl q_move ?_
                <;> (refine bDd 50 (fun hb50 => ?_) (fun hb50 => ?_) <;> (first | refine kD 7 51 rfl ?_ | refine xD 7 51 rfl q_move ?_))
                <;> (first | refine kD 8 52 rfl ?_ | refine xD 8 52 rfl (q_fldo 7 tFl126_0_LdV) ?_)
                <;> (first | refine kD 9 53 rfl ?_ | (refine yD 9 53 rfl (q_ldo 7 tNa3_LdV) fun v53 hv53 => ?_; cases hv53))
                <;> (first | refine kD 10 54 rfl ?_ | refine xD 10 54 rfl (q_idxo 11 tSl63_LdV) ?_)
                <;> (first | refine kD 11 55 rfl ?_ | (refine yD 11 55 rfl (q_ldo 11 tNa3_LdV) fun v55 hv55 => ?_; cases hv55))
                <;> (first | refine kD 12 56 rfl ?_ | refine xD 12 56 rfl q_lss ?_)
                <;> (first | refine kD 13 57 rfl ?_ | refine xD 13 57 rfl q_move ?_)
                <;> (first | refine kD 14 58 rfl ?_ | (refine bDd 57 (fun hb57 => ?_) (fun hb57 => ?_) <;> (first | refine kD 14 58 rfl ?_ | refine xD 14 58 rfl q_move ?_)))
                <;> (first | refine kD 15 59 rfl ?_ | refine xD 15 59 rfl (q_fldo 7 tFl126_0_LdV) ?_)
                <;> (first | refine kD 16 60 rfl ?_ | (refine yD 16 60 rfl (q_ldo 7 tNa3_LdV) fun v60 hv60 => ?_; cases hv60))
                <;> (first | refine kD 17 61 rfl ?_ | refine xD 17 61 rfl (q_idxo 11 tSl63_LdV) ?_)
                <;> (first | refine kD 18 62 rfl ?_ | (refine yD 18 62 rfl (q_ldo 11 tNa3_LdV) fun v62 hv62 => ?_; cases hv62))
                <;> (first | refine kD 19 63 rfl ?_ | refine xD 19 63 rfl q_move ?_)
                <;> (first | refine kD 20 64 rfl ?_ | refine xD 20 64 rfl (q_fldo 7 tFl126_1_LdV) ?_)
                <;> (first | refine kD 21 65 rfl ?_ | (refine yD 21 65 rfl (q_ldo 7 tNa3_LdV) fun v65 hv65 => ?_; cases hv65))
                <;> (first | refine kD 22 66 rfl ?_ | refine xD 22 66 rfl (q_idxo 11 tSl63_LdV) ?_)
                <;> (first | refine kD 23 67 rfl ?_ | (refine yD 23 67 rfl (q_ldo 11 tNa3_LdV) fun v67 hv67 => ?_; cases hv67))
                <;> (first | refine kD 24 68 rfl ?_ | refine xD 24 68 rfl q_move ?_)
                <;> (first | refine kD 25 69 rfl ?_ | refine xD 25 69 rfl q_add ?_)
                <;> (first | refine kD 26 70 rfl ?_ | refine xD 26 70 rfl q_gtr ?_)
                <;> (first | refine kD 27 71 rfl ?_ | refine xD 27 71 rfl q_pick ?_)
                <;> refine xE 28 72 rfl q_pick ?_
                <;> refine aD_end (by kernel_rfl) (nav ?_)
                <;> try dsimp only) <;> (
               first | refine cCd (fun hb72 => ?_) (fun hb72 => ?_) | refine cC (fun hb72 => ?_) (fun hb72 => ?_)
               · first
                 | exact Bool.noConfusion hb72
                 | (
                  refine nav ?_
                  (refine aC_draw (fun i => ([11] : List Nat).elem i) [1, 7, 11] (by kernel_rfl) ?_
                    <;> refine xD 0 73 rfl q_move ?_
                    <;> refine xD 1 74 rfl (q_fldo 7 tFl126_0_LdV) ?_
                    <;> (refine yD 2 75 rfl (q_ldo 7 tNa3_LdV) fun v75 hv75 => ?_; cases hv75)
                    <;> refine xD 3 76 rfl q_move ?_
                    <;> refine xD 4 77 rfl (q_fldo 7 tFl126_1_LdV) ?_
                    <;> (refine yD 5 78 rfl (q_ldo 7 tNa3_LdV) fun v78 hv78 => ?_; cases hv78)
                    <;> refine xD 6 79 rfl (q_idxo 11 tSl63_LdV) ?_
                    <;> (refine yD 7 80 rfl (q_ldo 11 tNa3_LdV) fun v80 hv80 => ?_; cases hv80)
                    <;> refine xE 8 81 rfl q_move ?_
                    <;> refine xE 9 82 rfl q_add ?_
                    <;> refine xE 10 83 rfl (q_idxo 11 tSl63_LdV) ?_
                    <;> (refine aD_one 11 (by kernel_rfl) ?_)
                    <;> (refine aW_last rfl rfl (by kernel_rfl) fun DQ back => ?_)
                    <;> refine s_st 11 tNa3_LdV tSz3_LdV ?_
                    <;> refine aL_end (back _ (nav ?_))
                    <;> try dsimp only)
                  (refine aC_region ?_
                    <;> refine xL 5 q_assign ?_
                    <;> refine aL_end (nav ?_) <;> try dsimp only)
                  (refine aC_region ?_
                    <;> refine xL 34 q_move ?_
                    <;> refine xL 35 q_add ?_
                    <;> refine xL 6 q_assign ?_
                    <;> refine aL_end (nav ?_) <;> try dsimp only)
                  try rw [Nat.mul_one, ← List.map_set]
                  first
                    | (exact aN_again (
                        ⟨(i + 1, L2.set m.src.toNat (d + 1), true), lt_of_get hm, hP.set hm hd he (by omega) (by omega) (by unfold stepD; rw [if_pos (by omega)])⟩
                        ) (by dsimp only; omega) ⟨rfl, rfl, rfl, rfl, rfl, trivial⟩ ⟨rfl, rfl, trivial⟩)
                    | (exact aN_again (
                        ⟨(i + 1, L2.set m.src.toNat (d + 0), true), lt_of_get hm, hP.set hm hd he (by omega) (by omega) (by unfold stepD; rw [if_neg (by omega)]; omega)⟩
                        ) (by dsimp only; omega) ⟨rfl, rfl, rfl, rfl, rfl, trivial⟩ ⟨rfl, rfl, trivial⟩)
                    | (exact aN_again (
                        ⟨(i + 1, L2, fl), lt_of_get hm, hP.skip hm hd he (by unfold stepD; first | omega | (rw [if_pos (by omega)]; omega) | (rw [if_neg (by omega)]; omega))⟩
                        ) (by dsimp only; omega) ⟨rfl, rfl, rfl, rfl, rfl, trivial⟩ ⟨rfl, rfl, trivial⟩))
               · first
                 | exact Bool.noConfusion hb72
                 | (
                  refine nav ?_
                  (refine aC_region ?_
                    <;> refine xL 34 q_move ?_
                    <;> refine xL 35 q_add ?_
                    <;> refine xL 6 q_assign ?_
                    <;> refine aL_end (nav ?_) <;> try dsimp only)
                  try rw [Nat.mul_one, ← List.map_set]
                  first
                    | (exact aN_again (
                        ⟨(i + 1, L2.set m.src.toNat (d + 1), true), lt_of_get hm, hP.set hm hd he (by omega) (by omega) (by unfold stepD; rw [if_pos (by omega)])⟩
                        ) (by dsimp only; omega) ⟨rfl, rfl, rfl, rfl, rfl, trivial⟩ ⟨rfl, rfl, trivial⟩)
                    | (exact aN_again (
                        ⟨(i + 1, L2.set m.src.toNat (d + 0), true), lt_of_get hm, hP.set hm hd he (by omega) (by omega) (by unfold stepD; rw [if_neg (by omega)]; omega)⟩
                        ) (by dsimp only; omega) ⟨rfl, rfl, rfl, rfl, rfl, trivial⟩ ⟨rfl, rfl, trivial⟩)
                    | (exact aN_again (
                        ⟨(i + 1, L2, fl), lt_of_get hm, hP.skip hm hd he (by unfold stepD; first | omega | (rw [if_pos (by omega)]; omega) | (rw [if_neg (by omega)]; omega))⟩
                        ) (by dsimp only; omega) ⟨rfl, rfl, rfl, rfl, rfl, trivial⟩ ⟨rfl, rfl, trivial⟩)))))
        · first
          | exact Bool.noConfusion hb33
          | (
           have hL2 : L2 = farAt a (j + 1) := hP.done (by omega)
           have hms : sumF a.n.toNat (farAt a (j + 1)) + (if fl then 1 else 0) < sumF a.n.toNat (farAt a j) + (if ag then 1 else 0) := by rw [show ag = true from hb28]; exact hP.less hL2
           refine nav ?_
           rw [hL2]
           refine aN_again (
             ⟨(j + 1, fl), fun hf => by
               have h1 := hP.no hf
               rw [hL2] at h1
               show passF a.moves (farAt a (j + 1)) = farAt a (j + 1)
               rw [h1]
               exact h1⟩
             ) (hms) ⟨rfl, rfl, rfl, rfl, trivial⟩ ⟨rfl, rfl, trivial⟩))
     · first
       | exact Bool.noConfusion hb28
       | (
        refine nav ?_
        (refine aC_region ?_
          <;> refine xL 84 q_move ?_
          <;> refine xL 2 q_assign ?_
          <;> refine aL_end (nav ?_) <;> try dsimp only)
        refine ret_own 11 (Tryz.results107) rfl rfl ?_
        rw [farL_eq (hag (by simpa using hb28))]))
end Go.Proofs.YtebcjijpdhbcdaaGreat
