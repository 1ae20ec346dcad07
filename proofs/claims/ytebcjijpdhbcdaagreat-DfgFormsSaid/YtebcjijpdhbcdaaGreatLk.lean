/-
  Walks: automata: distances.
  Walks: automata: the graph of an automaton.
-/
import Derived.Test.YtebcjijpdhbcdaaGreatLi
namespace Go.Proofs.YtebcjijpdhbcdaaGreat
open Go.RowKit Go.Cb Go.En
set_option linter.all false
set_option maxRecDepth 100000

theorem tAgg126_LdQ : AggT Tryz.prog 126 3 = true := by kernel_rfl
theorem tEl63_LdQ : ElT Tryz.prog 63 3 1 8 (.int .i64 0) := ⟨Tryz.underlying63, by kernel_rfl, rfl, by decide⟩
theorem tFl126_0_LdQ : FldT Tryz.prog 126 0 0 = true := by kernel_rfl
theorem tFl126_1_LdQ : FldT Tryz.prog 126 1 1 = true := by kernel_rfl
theorem tFl126_2_LdQ : FldT Tryz.prog 126 2 2 = true := by kernel_rfl
theorem tFl66_0_LdQ : FldT Tryz.prog 66 0 0 = true := by kernel_rfl
theorem tFl66_3_LdQ : FldT Tryz.prog 66 3 3 = true := by kernel_rfl
theorem tFl66_4_LdQ : FldT Tryz.prog 66 4 4 = true := by kernel_rfl
theorem tNa3_LdQ : NoAgg Tryz.prog 3 = true := by kernel_rfl
theorem tNa63_LdQ : NoAgg Tryz.prog 63 = true := by kernel_rfl
theorem tNa64_LdQ : NoAgg Tryz.prog 64 = true := by kernel_rfl
theorem tSl63_LdQ : SlT Tryz.prog 63 3 1 = true := by kernel_rfl
theorem tSl64_LdQ : SlT Tryz.prog 64 126 3 = true := by kernel_rfl
theorem tSz3_LdQ : (Tryz.prog.info? 3).map (·.size) = some 1 := by kernel_rfl
theorem tZr126_LdQ : ZeroT Tryz.prog 126 (.agg #[(.int .i64 0), (.int .i64 0), (.int .i64 0)]) := by unfold ZeroT; kernel_rfl

theorem pAut_n {a : Aut} (h : 0 ≤ a.n) : pAut a = .agg [pInt (a.n.toNat : Nat), pInt a.syms, pInts a.start, pInts a.fin, pMvs a.moves] := by
  unfold pAut; rw [show ((a.n.toNat : Nat) : Int) = a.n by omega]
def FinK (a : Aut) (k : Nat) (L : List Int) : Prop := L.length = a.n.toNat ∧ ∀ s, s < a.n.toNat → L[s]? = some (if (a.fin.take k).any (fun t => decide (t = (s : Nat))) then 0 else -1)
theorem FinK.start {a : Aut} {L : List Int} (hl : L.length = a.n.toNat) (h : ∀ j, j < L.length → L[j]? = some (-1)) : FinK a 0 L := ⟨hl, fun s hs => by rw [h s (by omega)]; rfl⟩
theorem FinK.step {a : Aut} {k : Nat} {L : List Int} {t : Int} (h : FinK a k L) (ht : a.fin[k]? = some t) (h0 : 0 ≤ t) : FinK a (k + 1) (L.set t.toNat 0) := by
  refine ⟨by rw [List.length_set]; exact h.1, fun s hs => ?_⟩
  rw [take_snoc ht, List.any_append]
  by_cases e : t.toNat = s
  · subst e
    rw [List.getElem?_set_self (by rw [h.1]; exact hs)]
    simp only [List.any_cons, List.any_nil, Bool.or_false]
    rw [decide_eq_true (show t = ((t.toNat : Nat) : Int) by omega), Bool.or_true]; rfl
  · rw [List.getElem?_set_ne e, h.2 s hs]
    simp only [List.any_cons, List.any_nil, Bool.or_false]
    rw [decide_eq_false (show ¬ t = (s : Int) by omega), Bool.or_false]
theorem FinK.done {a : Aut} {k : Nat} {L : List Int} (h : FinK a k L) (hk : a.fin.length ≤ k) : L = farAt a 0 := by
  apply List.ext_getElem?
  intro s
  rcases Nat.lt_or_ge s a.n.toNat with hs | hs
  · rw [h.2 s hs, show (farAt a 0)[s]? = _ from farInit_at hs, List.take_of_length_le hk]; rfl
  · rw [List.getElem?_eq_none (by rw [h.1]; exact hs), List.getElem?_eq_none (by rw [(farAt_ok a 0).len]; exact hs)]
structure PassI (a : Aut) (far0 L : List Int) (fl : Bool) (i : Nat) : Prop where
  eq : L = passF (a.moves.take i) far0
  ok : FarOk a.n.toNat L
  no : fl = false → L = far0
  yes : fl = true → sumF a.n.toNat L < sumF a.n.toNat far0
theorem PassI.start {a : Aut} {far0 : List Int} (h : FarOk a.n.toNat far0) : PassI a far0 far0 false 0 := ⟨rfl, h, fun _ => rfl, fun h => Bool.noConfusion h⟩
theorem PassI.set {a : Aut} {far0 L : List Int} {fl : Bool} {i : Nat} {m : Mv} {d e d' : Int} (h : PassI a far0 L fl i) (hm : a.moves[i]? = some m) (hd : L[m.dst.toNat]? = some d) (he : L[m.src.toNat]? = some e) (h0 : 0 ≤ d) (h1 : e < 0 ∨ d' < e) (hs : d' = stepD m d) : PassI a far0 (L.set m.src.toNat d') true (i + 1) := by
  subst hs
  have h2 := relax_set h.ok hd he h0 h1
  refine ⟨?_, h2.1, fun h => Bool.noConfusion h, fun _ => ?_⟩
  · rw [take_snoc hm]
    unfold passF
    rw [List.foldl_append]
    show _ = relax (passF (a.moves.take i) far0) m
    rw [← h.eq]
    unfold relax
    rw [hd, he]
    dsimp only
    rw [if_pos ⟨h0, h1⟩]
  · cases hfl : fl
    · rw [← h.no hfl]; exact h2.2
    · exact Nat.lt_trans h2.2 (h.yes hfl)
theorem PassI.skip {a : Aut} {far0 L : List Int} {fl : Bool} {i : Nat} {m : Mv} {d e : Int} (h : PassI a far0 L fl i) (hm : a.moves[i]? = some m) (hd : L[m.dst.toNat]? = some d) (he : L[m.src.toNat]? = some e) (h1 : ¬ (0 ≤ d ∧ (e < 0 ∨ stepD m d < e))) : PassI a far0 L fl (i + 1) := by
  refine ⟨?_, h.ok, h.no, h.yes⟩
  rw [take_snoc hm]
  unfold passF
  rw [List.foldl_append]
  show _ = relax (passF (a.moves.take i) far0) m
  rw [← h.eq]
  unfold relax
  rw [hd, he]
  dsimp only
  rw [if_neg h1]
theorem PassI.done {a : Aut} {far0 L : List Int} {fl : Bool} {i : Nat} (h : PassI a far0 L fl i) (hi : a.moves.length ≤ i) : L = passF a.moves far0 := by rw [h.eq, List.take_of_length_le hi]
theorem PassI.less {a : Aut} {j i : Nat} {L : List Int} {fl : Bool} (h : PassI a (farAt a j) L fl i) (hL : L = farAt a (j + 1)) : sumF a.n.toNat (farAt a (j + 1)) + (if fl then 1 else 0) < sumF a.n.toNat (farAt a j) + (if true then 1 else 0) := by
  cases hf : fl
  · have h1 := h.no hf
    rw [hL] at h1
    rw [h1]
    simp
  · have h1 := h.yes hf
    rw [hL] at h1
    simp; omega
theorem far_bd {n : Nat} {L : List Int} (h : FarOk n L) {i : Nat} {d : Int} (hd : L[i]? = some d) : -1 ≤ d ∧ d < n := by
  have h1 := h.lo d (List.mem_of_getElem? hd)
  have h2 := h.hi d (List.mem_of_getElem? hd)
  have h3 := cntD_le L
  rw [h.len] at h3
  omega
set_option maxHeartbeats 2000000 in
theorem aDistances_e (a : Aut) (h : AOk a) : AF Tryz.prog 103 [pAut a] (· = .own 3 1 a.n.toNat ((farL a).map pInt)) := by
  have hn0 := h.n0
  have hn1 := h.n1
  have hml := h.ml
  have hfl := h.fl
  rw [pAut_n h.n0]
  refine AF.of_body 80 Tryz.func103 rfl Tryz.ntmps103 (Nat.le_of_ble_eq_true rfl) ?_
  intro w0 M0 vs hl hv
  obtain ⟨v0, rfl⟩ := len1 hl
  clear hl hv
  refine nav ?_
  (refine aC_region ?_
    <;> refine s_boxa 1 5 fun h1 => ?_
    <;> refine xL 2 q_assign ?_
    <;> refine aL_end (nav ?_) <;> try dsimp only)
  (refine aC_region ?_
    <;> refine xL 11 (q_fldo 1 tFl66_0_LdQ) ?_
    <;> (refine yL 12 (q_ldo 1 tNa3_LdQ) fun v12 hv12 => ?_; cases hv12)
    <;> refine s_make 13 tEl63_LdQ fun h13 ho13 => ?_
    <;> refine xL 3 q_assign ?_
    <;> refine aL_end (nav ?_) <;> try dsimp only)
  rw [show List.replicate a.n.toNat (PV.val (.int .i64 0)) = (List.replicate a.n.toNat (0 : Int)).map pInt by rw [List.map_replicate]]
  (refine aC_region ?_
    <;> refine xL 14 q_move ?_
    <;> refine xL 15 (q_leno 13 tSl63_LdQ) ?_
    <;> refine xL 16 q_move ?_
    <;> refine aL_end (nav ?_) <;> try dsimp only)
  refine aC_loop (ι := { q : Nat × List Int // q.1 ≤ a.n.toNat ∧ q.2.length = a.n.toNat ∧ ∀ j, j < q.1 → q.2[j]? = some (-1) }) (fun k => ⟨[(1, _, _), (2, _, _), (3, _, _), (15, _, _), (16, .int .i64 k.1.1, pInt k.1.1)], [(1, _, _), (13, h13, .own 3 1 a.n.toNat (k.1.2.map pInt))]⟩) (fun k => a.n.toNat - k.1.1) ⟨(0, List.replicate a.n.toNat 0), Nat.zero_le _, List.length_replicate, fun j hj => by omega⟩ (fun a w H => H.weaken ⟨rfl, rfl, rfl, rfl, rfl, trivial⟩ ⟨rfl, rfl, trivial⟩) ?_
  rintro ⟨⟨k, L⟩, hk, hLl, hL⟩
  dsimp only
  dsimp only at hk hLl hL
  have hLm : (L.map pInt).length = a.n.toNat := by rw [List.length_map]; exact hLl
  refine nav ?_
  (refine aC_region ?_
    <;> refine xL 17 q_lss ?_
    <;> refine aL_end (nav ?_) <;> try dsimp only)
  first | refine cCd (fun hb17 => ?_) (fun hb17 => ?_) | refine cC (fun hb17 => ?_) (fun hb17 => ?_)
  · first
    | exact Bool.noConfusion hb17
    | (
     refine nav ?_
     (refine aC_region ?_
       <;> refine xL 18 q_move ?_
       <;> refine xL 4 q_assign ?_
       <;> refine aL_end (nav ?_) <;> try dsimp only)
     (refine aC_region ?_
       <;> refine xL 19 q_move ?_
       <;> refine xL 20 q_move ?_
       <;> refine xL 21 (q_idxoN 13 tSl63_LdQ) ?_
       <;> refine s_st 13 tNa3_LdQ tSz3_LdQ ?_
       <;> refine aL_end (nav ?_) <;> try dsimp only)
     (refine aC_region ?_
       <;> refine xL 22 q_add ?_
       <;> refine xL 16 q_move ?_
       <;> refine aL_end (nav ?_) <;> try dsimp only)
     rw [Nat.mul_one, ← List.map_set]
     refine aN_again (
       ⟨(k + 1, L.set k (-1)), by dsimp only; omega, by rw [List.length_set]; exact hLl, fun j hj => by
         dsimp only at hj ⊢
         by_cases e : k = j
         · subst e; rw [List.getElem?_set_self (by omega)]
         · rw [List.getElem?_set_ne e]; exact hL j (by omega)⟩
       ) (by dsimp only; omega) ⟨rfl, rfl, rfl, rfl, rfl, trivial⟩ ⟨rfl, rfl, trivial⟩)
  · first
    | exact Bool.noConfusion hb17
    | (
     have hF0 : FinK a 0 L := FinK.start hLl fun j hj => hL j (by omega)
     refine nav ?_
     (refine aC_region ?_
       <;> refine xL 23 (q_fldo 1 tFl66_3_LdQ) ?_
       <;> (refine yL 24 (q_ldo 1 tNa63_LdQ) fun v24 hv24 => ?_; cases hv24)
       <;> refine xL 25 (q_len tSl63_LdQ) ?_
       <;> refine xL 26 q_move ?_
       <;> refine aL_end (nav ?_) <;> try dsimp only)
     refine aC_loop (ι := { q : Nat × List Int // q.1 ≤ a.fin.length ∧ FinK a q.1 q.2 }) (fun k => ⟨[(1, _, _), (2, _, _), (3, _, _), (24, _, _), (25, _, _), (26, .int .i64 k.1.1, pInt k.1.1)], [(1, _, _), (13, h13, .own 3 1 a.n.toNat (k.1.2.map pInt))]⟩) (fun k => a.fin.length - k.1.1) ⟨(0, L), Nat.zero_le _, hF0⟩ (fun a w H => H.weaken ⟨rfl, rfl, rfl, rfl, rfl, rfl, trivial⟩ ⟨rfl, rfl, trivial⟩) ?_
     rintro ⟨⟨k8, L8⟩, hk8, hF8⟩
     dsimp only
     dsimp only at hk8 hF8
     have hLm8 : (L8.map pInt).length = a.n.toNat := by rw [List.length_map]; exact hF8.1
     refine nav ?_
     (refine aC_region ?_
       <;> refine xL 27 q_lss ?_
       <;> refine aL_end (nav ?_) <;> try dsimp only)
     first | refine cCd (fun hb27 => ?_) (fun hb27 => ?_) | refine cC (fun hb27 => ?_) (fun hb27 => ?_)
     · first
       | exact Bool.noConfusion hb27
       | (
        obtain ⟨t, ht⟩ := get_some (show k8 < a.fin.length by omega)
        have e1 := map_at (f := pInt) ht
        have ht2 := h.fi t (List.mem_of_getElem? ht)
        refine nav ?_
        (refine aC_region ?_
          <;> refine xL 28 (q_idxN tSl63_LdQ) ?_
          <;> (refine yL 29 (q_ld tNa3_LdQ) fun v29 hv29 => ?_; cases hv29)
          <;> refine xL 6 q_assign ?_
          <;> refine aL_end (nav ?_) <;> try dsimp only)
        (refine aC_region ?_
          <;> refine xL 30 q_move ?_
          <;> refine xL 31 q_move ?_
          <;> refine xL 32 (q_idxo 13 tSl63_LdQ) ?_
          <;> refine s_st 13 tNa3_LdQ tSz3_LdQ ?_
          <;> refine aL_end (nav ?_) <;> try dsimp only)
        (refine aC_region ?_
          <;> refine xL 33 q_add ?_
          <;> refine xL 26 q_move ?_
          <;> refine aL_end (nav ?_) <;> try dsimp only)
        rw [Nat.mul_one, ← List.map_set]
        refine aN_again (
          ⟨(k8 + 1, L8.set t.toNat 0), lt_of_get ht, hF8.step ht ht2.1⟩
          ) (by dsimp only; omega) ⟨rfl, rfl, rfl, rfl, rfl, rfl, trivial⟩ ⟨rfl, rfl, trivial⟩)
     · first
       | exact Bool.noConfusion hb27
       | (
        have hF9 := hF8.done (by omega)
        subst hF9
        refine nav ?_
        (refine aC_region ?_
          <;> refine xL 7 q_assign ?_
          <;> refine aL_end (nav ?_) <;> try dsimp only)
        refine aC_loop (ι := { q : Nat × Bool // q.2 = false → passF a.moves (farAt a q.1) = farAt a q.1 }) (fun k => ⟨[(1, _, _), (2, _, _), (3, _, _), (7, .bool k.1.2, pBool k.1.2)], [(1, _, _), (13, h13, .own 3 1 a.n.toNat ((farAt a k.1.1).map pInt))]⟩) (fun k => sumF a.n.toNat (farAt a k.1.1) + (if k.1.2 then 1 else 0)) ⟨(0, true), fun h => Bool.noConfusion h⟩ (fun a w H => H.weaken ⟨rfl, rfl, rfl, rfl, trivial⟩ ⟨rfl, rfl, trivial⟩) ?_
        rintro ⟨⟨j, ag⟩, hag⟩
        dsimp only
        dsimp only at hag
        refine nav ?_
        (refine aC_region ?_
          <;> refine xL 34 q_move ?_
          <;> refine aL_end (nav ?_) <;> try dsimp only)
        first | refine cCd (fun hb34 => ?_) (fun hb34 => ?_) | refine cC (fun hb34 => ?_) (fun hb34 => ?_)
        · first
          | exact Bool.noConfusion hb34
          | (
           refine nav ?_
           (refine aC_region ?_
             <;> refine xL 7 q_assign ?_
             <;> refine aL_end (nav ?_) <;> try dsimp only)
           (refine aC_region ?_
             <;> refine xL 35 (q_fldo 1 tFl66_4_LdQ) ?_
             <;> (refine yL 36 (q_ldo 1 tNa64_LdQ) fun v36 hv36 => ?_; cases hv36)
             <;> refine xL 37 (q_len tSl64_LdQ) ?_
             <;> refine xL 38 q_move ?_
             <;> refine aL_end (nav ?_) <;> try dsimp only)
           refine aC_loop (ι := { q : Nat × List Int × Bool // q.1 ≤ a.moves.length ∧ PassI a (farAt a j) q.2.1 q.2.2 q.1 }) (fun k => ⟨[(1, _, _), (2, _, _), (3, _, _), (36, _, _), (37, _, _), (7, .bool k.1.2.2, pBool k.1.2.2), (38, .int .i64 k.1.1, pInt k.1.1)], [(1, _, _), (13, h13, .own 3 1 a.n.toNat (k.1.2.1.map pInt))]⟩) (fun k => a.moves.length - k.1.1) ⟨(0, farAt a j, false), Nat.zero_le _, PassI.start (farAt_ok a j)⟩ (fun a w H => H.weaken ⟨rfl, rfl, rfl, rfl, rfl, rfl, rfl, trivial⟩ ⟨rfl, rfl, trivial⟩) ?_
           rintro ⟨⟨i, L2, fl⟩, hi, hP⟩
           dsimp only
           dsimp only at hi hP
           refine nav ?_
           (refine aC_region ?_
             <;> refine xL 39 q_lss ?_
             <;> refine aL_end (nav ?_) <;> try dsimp only)
           first | refine cCd (fun hb39 => ?_) (fun hb39 => ?_) | refine cC (fun hb39 => ?_) (fun hb39 => ?_)
           · first
             | exact Bool.noConfusion hb39
             | (
              obtain ⟨m, hm⟩ := get_some (show i < a.moves.length by omega)
              have e1 := flat_drop cMv_len a.moves i m hm
              have e2 := flat_fit cMv_len hm
              have hmv := h.mv m (List.mem_of_getElem? hm)
              have hLl := hP.ok.len
              obtain ⟨d, hd⟩ := get_some (show m.dst.toNat < L2.length by omega)
              obtain ⟨e, he⟩ := get_some (show m.src.toNat < L2.length by omega)
              have hdb := far_bd hP.ok hd
              have heb := far_bd hP.ok he
              have e3 := map_at (f := pInt) hd
              have e4 := map_at (f := pInt) he
              have hLm2 : (L2.map pInt).length = a.n.toNat := by rw [List.length_map]; exact hLl
              refine nav ?_
              (refine aC_region ?_
                <;> refine xL 40 (q_idxN tSl64_LdQ) ?_
                <;> (refine yL 41 (q_lda tAgg126_LdQ) fun v41 hv41 => ?_; cases hv41)
                <;> refine s_alloc [(.int .i64 0), (.int .i64 0), (.int .i64 0)] 3 9 tZr126_LdQ fun h9 => ?_
                <;> refine s_sta 9 tAgg126_LdQ ?_
                <;> refine aL_end (nav ?_) <;> try dsimp only)
              (refine aC_region ?_
                <;> refine xL 42 q_move ?_
                <;> refine xL 43 (q_fldo 9 tFl126_1_LdQ) ?_
                <;> (refine yL 44 (q_ldo 9 tNa3_LdQ) fun v44 hv44 => ?_; cases hv44)
                <;> refine xL 45 (q_idxo 13 tSl63_LdQ) ?_
                <;> (refine yL 46 (q_ldo 13 tNa3_LdQ) fun v46 hv46 => ?_; cases hv46)
                <;> refine xL 47 q_lss ?_
                <;> refine aL_end (nav ?_) <;> try dsimp only)
              first | refine cCd (fun hb47 => ?_) (fun hb47 => ?_) | refine cC (fun hb47 => ?_) (fun hb47 => ?_)
              · first
                | exact Bool.noConfusion hb47
                | (
                 refine nav ?_
                 (refine aC_region ?_
                   <;> refine xL 78 q_add ?_
                   <;> refine xL 38 q_move ?_
                   <;> refine aL_end (nav ?_) <;> try dsimp only)
                 try rw [Nat.mul_one, ← List.map_set]
                 first
                   | (exact aN_again (
                       ⟨(i + 1, L2.set m.src.toNat (d + 1), true), lt_of_get hm, hP.set hm hd he (by omega) (by first | omega | (simp at hb72; omega)) (by omega)⟩
                       ) (by dsimp only; omega) ⟨rfl, rfl, rfl, rfl, rfl, rfl, rfl, trivial⟩ ⟨rfl, rfl, trivial⟩)
                   | (exact aN_again (
                       ⟨(i + 1, L2.set m.src.toNat d, true), lt_of_get hm, hP.set hm hd he (by omega) (by first | omega | (simp at hb72; omega)) (by omega)⟩
                       ) (by dsimp only; omega) ⟨rfl, rfl, rfl, rfl, rfl, rfl, rfl, trivial⟩ ⟨rfl, rfl, trivial⟩)
                   | (exact aN_again (
                       ⟨(i + 1, L2, fl), lt_of_get hm, hP.skip hm hd he (by first | omega | (simp at hb72; omega))⟩
                       ) (by dsimp only; omega) ⟨rfl, rfl, rfl, rfl, rfl, rfl, rfl, trivial⟩ ⟨rfl, rfl, trivial⟩))
              · first
                | exact Bool.noConfusion hb47
                | (
                 refine nav ?_
                 (refine aC_region ?_
                   <;> refine xL 48 q_move ?_
                   <;> refine xL 49 (q_fldo 9 tFl126_1_LdQ) ?_
                   <;> (refine yL 50 (q_ldo 9 tNa3_LdQ) fun v50 hv50 => ?_; cases hv50)
                   <;> refine xL 51 (q_idxo 13 tSl63_LdQ) ?_
                   <;> (refine yL 52 (q_ldo 13 tNa3_LdQ) fun v52 hv52 => ?_; cases hv52)
                   <;> refine xL 10 q_assign ?_
                   <;> refine aL_end (nav ?_) <;> try dsimp only)
                 (refine aC_region ?_
                   <;> refine xL 53 (q_fldo 9 tFl126_2_LdQ) ?_
                   <;> (refine yL 54 (q_ldo 9 tNa3_LdQ) fun v54 hv54 => ?_; cases hv54)
                   <;> refine xL 55 q_geq ?_
                   <;> refine aL_end (nav ?_) <;> try dsimp only)
                 first | refine cCd (fun hb55 => ?_) (fun hb55 => ?_) | refine cC (fun hb55 => ?_) (fun hb55 => ?_)
                 · first
                   | exact Bool.noConfusion hb55
                   | (
                    have hst : stepD m d = d + 1 := by unfold stepD; rw [if_pos (by omega)]
                    refine nav ?_
                    (refine aC_region ?_
                      <;> refine xL 56 q_move ?_
                      <;> refine xL 57 q_add ?_
                      <;> refine xL 10 q_assign ?_
                      <;> refine aL_end (nav ?_) <;> try dsimp only)
                    (refine aC_region ?_
                      <;> refine xL 58 q_move ?_
                      <;> refine xL 59 (q_fldo 9 tFl126_0_LdQ) ?_
                      <;> (refine yL 60 (q_ldo 9 tNa3_LdQ) fun v60 hv60 => ?_; cases hv60)
                      <;> refine xL 61 (q_idxo 13 tSl63_LdQ) ?_
                      <;> (refine yL 62 (q_ldo 13 tNa3_LdQ) fun v62 hv62 => ?_; cases hv62)
                      <;> refine xL 63 q_lss ?_
                      <;> refine xL 64 q_move ?_
                      <;> (refine bLd 64 (fun hb64 => ?_) (fun hb64 => ?_) <;> (first | refine kL 65 ?_ | refine xL 65 q_move ?_))
                      <;> (first | refine kL 66 ?_ | refine xL 66 q_move ?_)
                      <;> (first | refine kL 67 ?_ | refine xL 67 (q_fldo 9 tFl126_0_LdQ) ?_)
                      <;> (first | refine kL 68 ?_ | (refine yL 68 (q_ldo 9 tNa3_LdQ) fun v68 hv68 => ?_; cases hv68))
                      <;> (first | refine kL 69 ?_ | refine xL 69 (q_idxo 13 tSl63_LdQ) ?_)
                      <;> (first | refine kL 70 ?_ | (refine yL 70 (q_ldo 13 tNa3_LdQ) fun v70 hv70 => ?_; cases hv70))
                      <;> (first | refine kL 71 ?_ | refine xL 71 q_lss ?_)
                      <;> refine xL 72 q_pick ?_
                      <;> refine aL_end (nav ?_) <;> try dsimp only) <;> (
                     first | refine cCd (fun hb72 => ?_) (fun hb72 => ?_) | refine cC (fun hb72 => ?_) (fun hb72 => ?_)
                     · first
                       | exact Bool.noConfusion hb72
                       | (
                        refine nav ?_
                        (refine aC_region ?_
                          <;> refine xL 73 q_move ?_
                          <;> refine xL 74 (q_fldo 9 tFl126_0_LdQ) ?_
                          <;> (refine yL 75 (q_ldo 9 tNa3_LdQ) fun v75 hv75 => ?_; cases hv75)
                          <;> refine xL 76 q_move ?_
                          <;> refine xL 77 (q_idxo 13 tSl63_LdQ) ?_
                          <;> refine s_st 13 tNa3_LdQ tSz3_LdQ ?_
                          <;> refine aL_end (nav ?_) <;> try dsimp only)
                        (refine aC_region ?_
                          <;> refine xL 7 q_assign ?_
                          <;> refine aL_end (nav ?_) <;> try dsimp only)
                        (refine aC_region ?_
                          <;> refine xL 78 q_add ?_
                          <;> refine xL 38 q_move ?_
                          <;> refine aL_end (nav ?_) <;> try dsimp only)
                        try rw [Nat.mul_one, ← List.map_set]
                        first
                          | (exact aN_again (
                              ⟨(i + 1, L2.set m.src.toNat (d + 1), true), lt_of_get hm, hP.set hm hd he (by omega) (by first | omega | (simp at hb72; omega)) (by omega)⟩
                              ) (by dsimp only; omega) ⟨rfl, rfl, rfl, rfl, rfl, rfl, rfl, trivial⟩ ⟨rfl, rfl, trivial⟩)
                          | (exact aN_again (
                              ⟨(i + 1, L2.set m.src.toNat d, true), lt_of_get hm, hP.set hm hd he (by omega) (by first | omega | (simp at hb72; omega)) (by omega)⟩
                              ) (by dsimp only; omega) ⟨rfl, rfl, rfl, rfl, rfl, rfl, rfl, trivial⟩ ⟨rfl, rfl, trivial⟩)
                          | (exact aN_again (
                              ⟨(i + 1, L2, fl), lt_of_get hm, hP.skip hm hd he (by first | omega | (simp at hb72; omega))⟩
                              ) (by dsimp only; omega) ⟨rfl, rfl, rfl, rfl, rfl, rfl, rfl, trivial⟩ ⟨rfl, rfl, trivial⟩))
                     · first
                       | exact Bool.noConfusion hb72
                       | (
                        refine nav ?_
                        (refine aC_region ?_
                          <;> refine xL 78 q_add ?_
                          <;> refine xL 38 q_move ?_
                          <;> refine aL_end (nav ?_) <;> try dsimp only)
                        try rw [Nat.mul_one, ← List.map_set]
                        first
                          | (exact aN_again (
                              ⟨(i + 1, L2.set m.src.toNat (d + 1), true), lt_of_get hm, hP.set hm hd he (by omega) (by first | omega | (simp at hb72; omega)) (by omega)⟩
                              ) (by dsimp only; omega) ⟨rfl, rfl, rfl, rfl, rfl, rfl, rfl, trivial⟩ ⟨rfl, rfl, trivial⟩)
                          | (exact aN_again (
                              ⟨(i + 1, L2.set m.src.toNat d, true), lt_of_get hm, hP.set hm hd he (by omega) (by first | omega | (simp at hb72; omega)) (by omega)⟩
                              ) (by dsimp only; omega) ⟨rfl, rfl, rfl, rfl, rfl, rfl, rfl, trivial⟩ ⟨rfl, rfl, trivial⟩)
                          | (exact aN_again (
                              ⟨(i + 1, L2, fl), lt_of_get hm, hP.skip hm hd he (by first | omega | (simp at hb72; omega))⟩
                              ) (by dsimp only; omega) ⟨rfl, rfl, rfl, rfl, rfl, rfl, rfl, trivial⟩ ⟨rfl, rfl, trivial⟩))))
                 · first
                   | exact Bool.noConfusion hb55
                   | (
                    have hst : stepD m d = d := by unfold stepD; rw [if_neg (by omega)]
                    refine nav ?_
                    (refine aC_region ?_
                      <;> refine xL 58 q_move ?_
                      <;> refine xL 59 (q_fldo 9 tFl126_0_LdQ) ?_
                      <;> (refine yL 60 (q_ldo 9 tNa3_LdQ) fun v60 hv60 => ?_; cases hv60)
                      <;> refine xL 61 (q_idxo 13 tSl63_LdQ) ?_
                      <;> (refine yL 62 (q_ldo 13 tNa3_LdQ) fun v62 hv62 => ?_; cases hv62)
                      <;> refine xL 63 q_lss ?_
                      <;> refine xL 64 q_move ?_
                      <;> (refine bLd 64 (fun hb64 => ?_) (fun hb64 => ?_) <;> (first | refine kL 65 ?_ | refine xL 65 q_move ?_))
                      <;> (first | refine kL 66 ?_ | refine xL 66 q_move ?_)
                      <;> (first | refine kL 67 ?_ | refine xL 67 (q_fldo 9 tFl126_0_LdQ) ?_)
                      <;> (first | refine kL 68 ?_ | (refine yL 68 (q_ldo 9 tNa3_LdQ) fun v68 hv68 => ?_; cases hv68))
                      <;> (first | refine kL 69 ?_ | refine xL 69 (q_idxo 13 tSl63_LdQ) ?_)
                      <;> (first | refine kL 70 ?_ | (refine yL 70 (q_ldo 13 tNa3_LdQ) fun v70 hv70 => ?_; cases hv70))
                      <;> (first | refine kL 71 ?_ | refine xL 71 q_lss ?_)
                      <;> refine xL 72 q_pick ?_
                      <;> refine aL_end (nav ?_) <;> try dsimp only) <;> (
                     first | refine cCd (fun hb72 => ?_) (fun hb72 => ?_) | refine cC (fun hb72 => ?_) (fun hb72 => ?_)
                     · first
                       | exact Bool.noConfusion hb72
                       | (
                        refine nav ?_
                        (refine aC_region ?_
                          <;> refine xL 73 q_move ?_
                          <;> refine xL 74 (q_fldo 9 tFl126_0_LdQ) ?_
                          <;> (refine yL 75 (q_ldo 9 tNa3_LdQ) fun v75 hv75 => ?_; cases hv75)
                          <;> refine xL 76 q_move ?_
                          <;> refine xL 77 (q_idxo 13 tSl63_LdQ) ?_
                          <;> refine s_st 13 tNa3_LdQ tSz3_LdQ ?_
                          <;> refine aL_end (nav ?_) <;> try dsimp only)
                        (refine aC_region ?_
                          <;> refine xL 7 q_assign ?_
                          <;> refine aL_end (nav ?_) <;> try dsimp only)
                        (refine aC_region ?_
                          <;> refine xL 78 q_add ?_
                          <;> refine xL 38 q_move ?_
                          <;> refine aL_end (nav ?_) <;> try dsimp only)
                        try rw [Nat.mul_one, ← List.map_set]
                        first
                          | (exact aN_again (
                              ⟨(i + 1, L2.set m.src.toNat (d + 1), true), lt_of_get hm, hP.set hm hd he (by omega) (by first | omega | (simp at hb72; omega)) (by omega)⟩
                              ) (by dsimp only; omega) ⟨rfl, rfl, rfl, rfl, rfl, rfl, rfl, trivial⟩ ⟨rfl, rfl, trivial⟩)
                          | (exact aN_again (
                              ⟨(i + 1, L2.set m.src.toNat d, true), lt_of_get hm, hP.set hm hd he (by omega) (by first | omega | (simp at hb72; omega)) (by omega)⟩
                              ) (by dsimp only; omega) ⟨rfl, rfl, rfl, rfl, rfl, rfl, rfl, trivial⟩ ⟨rfl, rfl, trivial⟩)
                          | (exact aN_again (
                              ⟨(i + 1, L2, fl), lt_of_get hm, hP.skip hm hd he (by first | omega | (simp at hb72; omega))⟩
                              ) (by dsimp only; omega) ⟨rfl, rfl, rfl, rfl, rfl, rfl, rfl, trivial⟩ ⟨rfl, rfl, trivial⟩))
                     · first
                       | exact Bool.noConfusion hb72
                       | (
                        refine nav ?_
                        (refine aC_region ?_
                          <;> refine xL 78 q_add ?_
                          <;> refine xL 38 q_move ?_
                          <;> refine aL_end (nav ?_) <;> try dsimp only)
                        try rw [Nat.mul_one, ← List.map_set]
                        first
                          | (exact aN_again (
                              ⟨(i + 1, L2.set m.src.toNat (d + 1), true), lt_of_get hm, hP.set hm hd he (by omega) (by first | omega | (simp at hb72; omega)) (by omega)⟩
                              ) (by dsimp only; omega) ⟨rfl, rfl, rfl, rfl, rfl, rfl, rfl, trivial⟩ ⟨rfl, rfl, trivial⟩)
                          | (exact aN_again (
                              ⟨(i + 1, L2.set m.src.toNat d, true), lt_of_get hm, hP.set hm hd he (by omega) (by first | omega | (simp at hb72; omega)) (by omega)⟩
                              ) (by dsimp only; omega) ⟨rfl, rfl, rfl, rfl, rfl, rfl, rfl, trivial⟩ ⟨rfl, rfl, trivial⟩)
                          | (exact aN_again (
                              ⟨(i + 1, L2, fl), lt_of_get hm, hP.skip hm hd he (by first | omega | (simp at hb72; omega))⟩
                              ) (by dsimp only; omega) ⟨rfl, rfl, rfl, rfl, rfl, rfl, rfl, trivial⟩ ⟨rfl, rfl, trivial⟩))))))
           · first
             | exact Bool.noConfusion hb39
             | (
              have hL2 : L2 = farAt a (j + 1) := hP.done (by omega)
              have hms : sumF a.n.toNat (farAt a (j + 1)) + (if fl then 1 else 0) < sumF a.n.toNat (farAt a j) + (if ag then 1 else 0) := by rw [show ag = true from hb34]; exact hP.less hL2
              refine nav ?_
              rw [hL2]
              refine aN_again (
                ⟨(j + 1, fl), fun hf => by
                  have h1 := hP.no hf
                  rw [hL2] at h1
                  show passF a.moves (farAt a (j + 1)) = farAt a (j + 1)
                  rw [h1]
                  exact h1⟩
                ) (hms) ⟨rfl, rfl, rfl, rfl, trivial⟩ ⟨rfl, rfl, trivial⟩))
        · first
          | exact Bool.noConfusion hb34
          | (
           refine nav ?_
           (refine aC_region ?_
             <;> refine xL 79 q_move ?_
             <;> refine xL 2 q_assign ?_
             <;> refine aL_end (nav ?_) <;> try dsimp only)
           refine ret_own 13 (Tryz.results103) rfl rfl ?_
           rw [farL_eq (hag (by simpa using hb34))])))
end Go.Proofs.YtebcjijpdhbcdaaGreat

namespace Go.Proofs.YtebcjijpdhbcdaaGreat
open Go.RowKit Go.Cb Go.En
set_option linter.all false
set_option maxRecDepth 100000

theorem tAgg126_LdR : AggT Tryz.prog 126 3 = true := by kernel_rfl
theorem tEl159_LdR : ElT Tryz.prog 159 64 1 24 (.slice none 0 0) := ⟨Tryz.underlying159, by kernel_rfl, rfl, by decide⟩
theorem tEl160_LdR : ElT Tryz.prog 160 4 1 1 (.bool false) := ⟨Tryz.underlying160, by kernel_rfl, rfl, by decide⟩
theorem tEl64_LdR : ElT Tryz.prog 64 126 3 24 (.agg #[(.int .i64 0), (.int .i64 0), (.int .i64 0)]) := ⟨Tryz.underlying64, by kernel_rfl, rfl, by decide⟩
theorem tFl126_0_LdR : FldT Tryz.prog 126 0 0 = true := by kernel_rfl
theorem tFl162_1_LdR : FldT Tryz.prog 162 1 1 = true := by kernel_rfl
theorem tFl162_2_LdR : FldT Tryz.prog 162 2 2 = true := by kernel_rfl
theorem tFl66_0_LdR : FldT Tryz.prog 66 0 0 = true := by kernel_rfl
theorem tFl66_1_LdR : FldT Tryz.prog 66 1 1 = true := by kernel_rfl
theorem tFl66_3_LdR : FldT Tryz.prog 66 3 3 = true := by kernel_rfl
theorem tFl66_4_LdR : FldT Tryz.prog 66 4 4 = true := by kernel_rfl
theorem tNa159_LdR : NoAgg Tryz.prog 159 = true := by kernel_rfl
theorem tNa160_LdR : NoAgg Tryz.prog 160 = true := by kernel_rfl
theorem tNa3_LdR : NoAgg Tryz.prog 3 = true := by kernel_rfl
theorem tNa4_LdR : NoAgg Tryz.prog 4 = true := by kernel_rfl
theorem tNa63_LdR : NoAgg Tryz.prog 63 = true := by kernel_rfl
theorem tNa64_LdR : NoAgg Tryz.prog 64 = true := by kernel_rfl
theorem tSl159_LdR : SlT Tryz.prog 159 64 1 = true := by kernel_rfl
theorem tSl160_LdR : SlT Tryz.prog 160 4 1 = true := by kernel_rfl
theorem tSl63_LdR : SlT Tryz.prog 63 3 1 = true := by kernel_rfl
theorem tSl64_LdR : SlT Tryz.prog 64 126 3 = true := by kernel_rfl
theorem tSt162_LdR : stInfo Tryz.prog 162 = some ((.agg #[(.int .i64 0), (.slice none 0 0), (.slice none 0 0)]), ([0, 1, 2] : List Nat).map fun o => (o, 1)) := by kernel_rfl
theorem tSz4_LdR : (Tryz.prog.info? 4).map (·.size) = some 1 := by kernel_rfl
theorem tSz64_LdR : (Tryz.prog.info? 64).map (·.size) = some 1 := by kernel_rfl
theorem tZr126_LdR : ZeroT Tryz.prog 126 (.agg #[(.int .i64 0), (.int .i64 0), (.int .i64 0)]) := by unfold ZeroT; kernel_rfl

def oMvs (e : Nat) (l : List Mv) : PV := .own e 3 l.length (l.flatMap cMv)
theorem share_mvs (e : Nat) (l : List Mv) : share (oMvs e l) = pMvs l := by
  unfold oMvs
  rw [share, shares_eq, List.map_flatMap]; rfl
def byState (ms : List Mv) (s : Nat) : List Mv := ms.filter fun m => decide (m.src = (s : Int))
def rowsMv (e n : Nat) (ms : List Mv) : List PV := (List.range n).map fun s => oMvs e (byState ms s)
theorem rowsMv_len (e n : Nat) (ms : List Mv) : (rowsMv e n ms).length = n := by unfold rowsMv; simp
theorem rowsMv_at (e : Nat) {n s : Nat} (ms : List Mv) (h : s < n) : (rowsMv e n ms)[s]? = some (oMvs e (byState ms s)) := by
  unfold rowsMv; rw [List.getElem?_map, List.getElem?_range h]; rfl
theorem rowsMv_step (e : Nat) {n : Nat} {ms : List Mv} {m : Mv} (h0 : 0 ≤ m.src) (h : m.src < n) : (rowsMv e n ms).set m.src.toNat (oMvs e (byState ms m.src.toNat ++ [m])) = rowsMv e n (ms ++ [m]) := by
  apply List.ext_getElem?
  intro s
  rcases Nat.lt_or_ge s n with hs | hs
  · rw [rowsMv_at e _ hs]
    by_cases e1 : m.src.toNat = s
    · subst e1
      rw [List.getElem?_set_self (by rw [rowsMv_len]; exact hs)]
      congr 2
      unfold byState
      rw [List.filter_append]
      congr 1
      simp only [List.filter_cons, List.filter_nil]
      rw [decide_eq_true (show m.src = ((m.src.toNat : Nat) : Int) by omega)]; rfl
    · rw [List.getElem?_set_ne e1, rowsMv_at e _ hs]
      congr 2
      unfold byState
      rw [List.filter_append]
      simp only [List.filter_cons, List.filter_nil]
      rw [decide_eq_false (show ¬ m.src = (s : Int) by omega)]; simp
  · rw [List.getElem?_eq_none (by rw [List.length_set, rowsMv_len]; exact hs), List.getElem?_eq_none (by rw [rowsMv_len]; exact hs)]
theorem nilTo_mv (e n : Nat) : ∀ (i : Nat) (p p' : PV), (List.replicate n (PV.val (.slice none 0 0)))[i]? = some p → (rowsMv e n [])[i]? = some p' → nilTo p p' := fun i p p' h1 h2 => by
  have hi := lt_of_get h2
  rw [rowsMv_len] at hi
  rw [rowsMv_at e _ hi] at h2
  rw [List.getElem?_replicate, if_pos hi] at h1
  cases h1; cases h2
  exact .inr ⟨rfl, e, 3, rfl⟩
theorem byState_len (ms : List Mv) (s : Nat) : (byState ms s).length ≤ ms.length := List.length_filter_le _ _
def finsL (a : Aut) (k : Nat) : List PV := (List.range a.n.toNat).map fun s => pBool ((a.fin.take k).any fun t => decide (t = (s : Nat)))
theorem finsL_len (a : Aut) (k : Nat) : (finsL a k).length = a.n.toNat := by unfold finsL; simp
theorem finsL_at {a : Aut} {k s : Nat} (h : s < a.n.toNat) : (finsL a k)[s]? = some (pBool ((a.fin.take k).any fun t => decide (t = (s : Nat)))) := by
  unfold finsL; rw [List.getElem?_map, List.getElem?_range h]; rfl
theorem finsL_step {a : Aut} {k : Nat} {t : Int} (ht : a.fin[k]? = some t) (h0 : 0 ≤ t) : (finsL a k).set t.toNat (pBool true) = finsL a (k + 1) := by
  apply List.ext_getElem?
  intro s
  rcases Nat.lt_or_ge s a.n.toNat with hs | hs
  · rw [finsL_at hs]
    rw [take_snoc ht, List.any_append]
    simp only [List.any_cons, List.any_nil, Bool.or_false]
    by_cases e : t.toNat = s
    · subst e
      rw [List.getElem?_set_self (by rw [finsL_len]; exact hs), decide_eq_true (show t = ((t.toNat : Nat) : Int) by omega), Bool.or_true]
    · rw [List.getElem?_set_ne e, finsL_at hs, decide_eq_false (show ¬ t = (s : Int) by omega), Bool.or_false]
  · rw [List.getElem?_eq_none (by rw [List.length_set, finsL_len]; exact hs), List.getElem?_eq_none (by rw [finsL_len]; exact hs)]
theorem finsL_zero (a : Aut) : List.replicate a.n.toNat (PV.val (.bool false)) = finsL a 0 := by
  apply List.ext_getElem?
  intro s
  rcases Nat.lt_or_ge s a.n.toNat with hs | hs
  · rw [finsL_at hs, List.getElem?_replicate, if_pos hs]; rfl
  · rw [List.getElem?_eq_none (by rw [List.length_replicate]; exact hs), List.getElem?_eq_none (by rw [finsL_len]; exact hs)]
theorem share_gr (e0 e1 e2 : Nat) (a : Aut) {k1 k2 : Nat} (h1 : a.moves.length ≤ k1) (h2 : a.fin.length ≤ k2) : shares [pInt a.syms, PV.own e0 1 a.n.toNat (rowsMv e1 a.n.toNat (a.moves.take k1)), PV.own e2 1 a.n.toNat (finsL a k2)] = [pInt a.syms, grMoves a, grFin a] := by
  rw [List.take_of_length_le h1]
  simp only [shares, share]
  congr 1
  congr 1
  · unfold grMoves rowsMv
    rw [shares_eq, List.map_map]
    congr 1
    exact List.map_congr_left fun s _ => share_mvs e1 _
  · congr 1
    unfold grFin finsL
    rw [shares_eq, List.map_map, List.take_of_length_le h2]; rfl
theorem snoc_mvs (e : Nat) (L : List Mv) (x : Mv) : PV.own e 3 (L.length + 1) (L.flatMap cMv ++ cMv x) = oMvs e (L ++ [x]) := by unfold oMvs; simp
set_option maxHeartbeats 2000000 in
theorem aGraphOf_e (a : Aut) (h : AOk a) : AF Tryz.prog 82 [pAut a] (· = pGr a) := by
  have hn0 := h.n0
  have hn1 := h.n1
  have hml := h.ml
  have hfl := h.fl
  rw [pAut_n h.n0]
  refine AF.of_body 59 Tryz.func82 rfl Tryz.ntmps82 (Nat.le_of_ble_eq_true rfl) ?_
  intro w0 M0 vs hl hv
  obtain ⟨v0, rfl⟩ := len1 hl
  clear hl hv
  refine nav ?_
  (refine aC_region ?_
    <;> refine s_boxa 1 5 fun h1 => ?_
    <;> refine xL 2 q_assign ?_
    <;> refine aL_end (nav ?_) <;> try dsimp only)
  (refine aC_draw (fun i => ([] : List Nat).elem i) [1] (by kernel_rfl) ?_
    <;> refine xD 0 8 rfl (q_fldo 1 tFl66_1_LdR) ?_
    <;> (refine yD 1 9 rfl (q_ldo 1 tNa3_LdR) fun v9 hv9 => ?_; cases hv9)
    <;> refine xD 2 10 rfl (q_fldo 1 tFl66_0_LdR) ?_
    <;> (refine yD 3 11 rfl (q_ldo 1 tNa3_LdR) fun v11 hv11 => ?_; cases hv11)
    <;> refine xD 5 13 rfl (q_fldo 1 tFl66_0_LdR) ?_
    <;> (refine yD 6 14 rfl (q_ldo 1 tNa3_LdR) fun v14 hv14 => ?_; cases hv14)
    <;> (refine aD_two 4 7 (by kernel_rfl) ?_ ?_; rotate_right; (focus ((refine aW_run rfl fun w9 M9 N9 DQ back => ?_) <;> refine s_make 15 tEl160_LdR fun h15 ho15 => ?_ <;> refine aL_end (back _ (nrm ?_)) <;> (refine aD_one 4 (by kernel_rfl) ?_) <;> (refine aW_run rfl fun w9 M9 N9 DQ back => ?_) <;> refine s_make 12 tEl159_LdR fun h12 ho12 => ?_ <;> refine aL_end (back _ (nrm ?_)) <;> refine xE 8 16 rfl (q_build tSt162_LdR) ?_ <;> (refine aD_one 9 (by kernel_rfl) ?_) <;> (refine aW_run rfl fun w9 M9 N9 DQ back => ?_) <;> refine s_boxa 17 3 fun h17 => ?_ <;> refine aL_end (back _ (nrm ?_)) <;> (refine aD_one 10 (by kernel_rfl) ?_) <;> (refine aW_run rfl fun w9 M9 N9 DQ back => ?_) <;> refine xL 3 q_assign ?_ <;> refine aL_end (back _ (nrm ?_)) <;> refine aD_end (by kernel_rfl) (nav ?_))); rotate_right; (focus ((refine aW_run rfl fun w9 M9 N9 DQ back => ?_) <;> refine s_make 12 tEl159_LdR fun h12 ho12 => ?_ <;> refine aL_end (back _ (nrm ?_)) <;> (refine aD_one 7 (by kernel_rfl) ?_) <;> (refine aW_run rfl fun w9 M9 N9 DQ back => ?_) <;> refine s_make 15 tEl160_LdR fun h15 ho15 => ?_ <;> refine aL_end (back _ (nrm ?_)) <;> refine xE 8 16 rfl (q_build tSt162_LdR) ?_ <;> (refine aD_one 9 (by kernel_rfl) ?_) <;> (refine aW_run rfl fun w9 M9 N9 DQ back => ?_) <;> refine s_boxa 17 3 fun h17 => ?_ <;> refine aL_end (back _ (nrm ?_)) <;> (refine aD_one 10 (by kernel_rfl) ?_) <;> (refine aW_run rfl fun w9 M9 N9 DQ back => ?_) <;> refine xL 3 q_assign ?_ <;> refine aL_end (back _ (nrm ?_)) <;> refine aD_end (by kernel_rfl) (nav ?_))))
    <;> try dsimp only) <;> (
   refine aC_ent (nilCells (l := 12) (rowsMv 126 a.n.toNat []) rfl (by rw [rowsMv_len, List.length_replicate]) (nilTo_mv _ _)) fun _ => ?_
   rw [finsL_zero a]
   (refine aC_region ?_
     <;> refine xL 18 (q_fldo 1 tFl66_4_LdR) ?_
     <;> (refine yL 19 (q_ldo 1 tNa64_LdR) fun v19 hv19 => ?_; cases hv19)
     <;> refine xL 20 (q_len tSl64_LdR) ?_
     <;> refine xL 21 q_move ?_
     <;> refine aL_end (nav ?_) <;> try dsimp only)
   refine aC_loop (ι := { q : Nat // q ≤ a.moves.length }) (fun k => ⟨[(1, _, _), (2, _, _), (3, _, _), (19, _, _), (20, _, _), (21, .int .i64 k.1, pInt k.1)], [(1, _, _), (15, _, _), (17, h17, .own 162 3 1 [pInt a.syms, .val h12, .val h15]), (12, h12, .own 64 1 a.n.toNat (rowsMv 126 a.n.toNat (a.moves.take k.1)))]⟩) (fun k => a.moves.length - k.1) ⟨0, Nat.zero_le _⟩ (fun a w H => H.weaken ⟨rfl, rfl, rfl, rfl, rfl, rfl, trivial⟩ ⟨rfl, rfl, rfl, rfl, trivial⟩) ?_
   rintro ⟨k, hk⟩
   dsimp only
   refine nav ?_
   (refine aC_region ?_
     <;> refine xL 22 q_lss ?_
     <;> refine aL_end (nav ?_) <;> try dsimp only)
   first | refine cCd (fun hb22 => ?_) (fun hb22 => ?_) | refine cC (fun hb22 => ?_) (fun hb22 => ?_)
   · first
     | exact Bool.noConfusion hb22
     | (
      obtain ⟨m, hm⟩ := get_some (show k < a.moves.length by omega)
      have e1 := flat_drop cMv_len a.moves k m hm
      have e2 := flat_fit cMv_len hm
      have hmv := h.mv m (List.mem_of_getElem? hm)
      have hi : m.src.toNat < a.n.toNat := by omega
      refine nav ?_
      (refine aC_region ?_
        <;> refine xL 23 (q_idxN tSl64_LdR) ?_
        <;> (refine yL 24 (q_lda tAgg126_LdR) fun v24 hv24 => ?_; cases hv24)
        <;> refine s_alloc [(.int .i64 0), (.int .i64 0), (.int .i64 0)] 3 5 tZr126_LdR fun h5 => ?_
        <;> refine s_sta 5 tAgg126_LdR ?_
        <;> refine aL_end (nav ?_) <;> try dsimp only)
      refine aC_ent (focusO (l := 12) (l' := 201) (j := m.src.toNat) rfl (rowsMv_at _ _ hi) rfl rfl) fun i => ?_
      obtain ⟨m1, hm1⟩ := i
      dsimp only
      have e3 : ((rowsMv 126 a.n.toNat (a.moves.take k)).set m.src.toNat (.val m1))[m.src.toNat * 1]? = some (.val m1) := by rw [Nat.mul_one, List.getElem?_set_self (by rw [rowsMv_len]; exact hi)]
      have e4 : ((rowsMv 126 a.n.toNat (a.moves.take k)).set m.src.toNat (.val m1)).length = a.n.toNat := by rw [List.length_set, rowsMv_len]
      have e5 := byState_len (a.moves.take k) m.src.toNat
      rw [List.length_take] at e5
      (refine aC_draw (fun i => ([18] : List Nat).elem i) [5, 12, 17] (by kernel_rfl) ?_
        <;> refine xD 0 25 rfl q_move ?_
        <;> refine xD 1 26 rfl (q_nilo 17) ?_
        <;> refine xD 2 27 rfl (q_fldo 17 tFl162_1_LdR) ?_
        <;> (refine yD 3 28 rfl (q_ldo 17 tNa159_LdR) fun v28 hv28 => ?_; cases hv28)
        <;> refine xD 4 29 rfl (q_fldo 5 tFl126_0_LdR) ?_
        <;> (refine yD 5 30 rfl (q_ldo 5 tNa3_LdR) fun v30 hv30 => ?_; cases hv30)
        <;> refine xD 6 31 rfl q_move ?_
        <;> refine xD 7 32 rfl (q_nilo 17) ?_
        <;> refine xD 8 33 rfl (q_fldo 17 tFl162_1_LdR) ?_
        <;> (refine yD 9 34 rfl (q_ldo 17 tNa159_LdR) fun v34 hv34 => ?_; cases hv34)
        <;> refine xD 10 35 rfl (q_fldo 5 tFl126_0_LdR) ?_
        <;> (refine yD 11 36 rfl (q_ldo 5 tNa3_LdR) fun v36 hv36 => ?_; cases hv36)
        <;> refine xD 12 37 rfl (q_idxo 12 tSl159_LdR) ?_
        <;> (refine yD 13 38 rfl (q_ldo 12 tNa64_LdR) fun v38 hv38 => ?_; cases hv38)
        <;> (refine yE 14 39 rfl (q_ldao 5 tAgg126_LdR) fun v39 hv39 => ?_; cases hv39)
        <;> (refine aD_one 15 (by kernel_rfl) ?_)
        <;> (refine aW_run rfl fun w9 M9 N9 DQ back => ?_)
        <;> refine s_lit1a 40 tEl64_LdR fun h40 ho40 => ?_
        <;> refine aL_end (back _ (nrm ?_))
        <;> (refine aD_one 16 (by kernel_rfl) ?_)
        <;> (refine aW_run rfl fun w9 M9 N9 DQ back => ?_)
        <;> refine s_app 201 40 41 tEl64_LdR fun h41 ho41 => ?_
        <;> refine aL_end (back _ (nrm ?_))
        <;> refine xE 17 42 rfl (q_idxo 12 tSl159_LdR) ?_
        <;> (refine aD_one 18 (by kernel_rfl) ?_)
        <;> (refine aW_last rfl rfl (by kernel_rfl) fun DQ back => ?_)
        <;> refine s_st 12 tNa64_LdR tSz64_LdR ?_
        <;> refine aL_end (back _ (nav ?_))
        <;> try dsimp only)
      (refine aC_region ?_
        <;> refine xL 43 q_add ?_
        <;> refine xL 21 q_move ?_
        <;> refine aL_end (nav ?_) <;> try dsimp only)
      refine aN_ent (fold (l := 12) (l' := 41) (j := m.src.toNat) rfl (by rw [Nat.mul_one]; exact List.getElem?_set_self (by rw [List.length_set, rowsMv_len]; exact hi)) rfl rfl) fun _ => ?_
      rw [Nat.mul_one, List.set_set, List.set_set]
      rw [show List.take 3 (List.drop 0 (setL (List.map PV.val [Value.int IntKind.i64 0, Value.int IntKind.i64 0, Value.int IntKind.i64 0]) 0 (cMv m))) = cMv m from rfl]
      rw [show PV.own 126 3 ((byState (a.moves.take k) m.src.toNat).length + 1) ((byState (a.moves.take k) m.src.toNat).flatMap cMv ++ cMv m) = oMvs 126 (byState (a.moves.take k) m.src.toNat ++ [m]) from snoc_mvs _ _ _]
      rw [rowsMv_step _ (by omega) (by omega), ← take_snoc hm]
      refine aN_again (
        ⟨k + 1, lt_of_get hm⟩
        ) (by dsimp only; omega) ⟨rfl, rfl, rfl, rfl, rfl, rfl, trivial⟩ ⟨rfl, rfl, rfl, rfl, trivial⟩)
   · first
     | exact Bool.noConfusion hb22
     | (
      refine nav ?_
      (refine aC_region ?_
        <;> refine xL 44 (q_fldo 1 tFl66_3_LdR) ?_
        <;> (refine yL 45 (q_ldo 1 tNa63_LdR) fun v45 hv45 => ?_; cases hv45)
        <;> refine xL 46 (q_len tSl63_LdR) ?_
        <;> refine xL 47 q_move ?_
        <;> refine aL_end (nav ?_) <;> try dsimp only)
      refine aC_loop (ι := { q : Nat // q ≤ a.fin.length }) (fun k => ⟨[(1, _, _), (2, _, _), (3, _, _), (45, _, _), (46, _, _), (47, .int .i64 k.1, pInt k.1)], [(1, _, _), (12, _, _), (17, h17, .own 162 3 1 [pInt a.syms, .val h12, .val h15]), (15, h15, .own 4 1 a.n.toNat (finsL a k.1))]⟩) (fun k => a.fin.length - k.1) ⟨0, Nat.zero_le _⟩ (fun a w H => H.weaken ⟨rfl, rfl, rfl, rfl, rfl, rfl, trivial⟩ ⟨rfl, rfl, rfl, rfl, trivial⟩) ?_
      rintro ⟨k8, hk8⟩
      dsimp only
      refine nav ?_
      (refine aC_region ?_
        <;> refine xL 48 q_lss ?_
        <;> refine aL_end (nav ?_) <;> try dsimp only)
      first | refine cCd (fun hb48 => ?_) (fun hb48 => ?_) | refine cC (fun hb48 => ?_) (fun hb48 => ?_)
      · first
        | exact Bool.noConfusion hb48
        | (
         obtain ⟨t, ht⟩ := get_some (show k8 < a.fin.length by omega)
         have e1 := map_at (f := pInt) ht
         have ht2 := h.fi t (List.mem_of_getElem? ht)
         have e6 := finsL_len a k8
         refine nav ?_
         (refine aC_region ?_
           <;> refine xL 49 (q_idxN tSl63_LdR) ?_
           <;> (refine yL 50 (q_ld tNa3_LdR) fun v50 hv50 => ?_; cases hv50)
           <;> refine xL 7 q_assign ?_
           <;> refine aL_end (nav ?_) <;> try dsimp only)
         (refine aC_region ?_
           <;> refine xL 51 q_move ?_
           <;> refine xL 52 (q_nilo 17) ?_
           <;> refine xL 53 (q_fldo 17 tFl162_2_LdR) ?_
           <;> (refine yL 54 (q_ldo 17 tNa160_LdR) fun v54 hv54 => ?_; cases hv54)
           <;> refine xL 55 q_move ?_
           <;> refine xL 56 (q_idxo 15 tSl160_LdR) ?_
           <;> refine s_st 15 tNa4_LdR tSz4_LdR ?_
           <;> refine aL_end (nav ?_) <;> try dsimp only)
         (refine aC_region ?_
           <;> refine xL 57 q_add ?_
           <;> refine xL 47 q_move ?_
           <;> refine aL_end (nav ?_) <;> try dsimp only)
         rw [Nat.mul_one, finsL_step ht ht2.1]
         refine aN_again (
           ⟨k8 + 1, lt_of_get ht⟩
           ) (by dsimp only; omega) ⟨rfl, rfl, rfl, rfl, rfl, rfl, trivial⟩ ⟨rfl, rfl, rfl, rfl, trivial⟩)
      · first
        | exact Bool.noConfusion hb48
        | (
         refine nav ?_
         (refine aC_region ?_
           <;> refine xL 58 q_move ?_
           <;> refine xL 2 q_assign ?_
           <;> refine aL_end (nav ?_) <;> try dsimp only)
         refine aR_ent (fold (l := 17) (l' := 12) (j := 1) rfl rfl rfl rfl) fun _ => ?_
         refine aR_ent (fold (l := 17) (l' := 15) (j := 2) rfl rfl rfl rfl) fun _ => ?_
         refine aR_ent (freezeP (l := 17) (t := 2) (j := 0) rfl Nat.one_pos rfl) fun _ => ?_
         refine ret_shr (Tryz.results82) rfl ?_
         exact congrArg (PV.sptr 0) (share_gr _ _ _ a (by omega) (by omega)))))
end Go.Proofs.YtebcjijpdhbcdaaGreat
