/-
  Walks: the reference's words of a directly-follows graph.
-/
import Derived.Test.YtebcjijpdhbcdaaGreatMLeG
namespace Go.Proofs.YtebcjijpdhbcdaaGreat
open Go.RowKit Go.Cb Go.En
set_option linter.all false
set_option maxRecDepth 100000

theorem tAgg28_LeH : AggT Tryz.prog 28 4 = true := by kernel_rfl
theorem tEl36_LeH : ElT Tryz.prog 36 51 1 24 (.slice none 0 0) := ⟨Tryz.underlying36, by kernel_rfl, rfl, by decide⟩
theorem tEl51_LeH : ElT Tryz.prog 51 9 1 16 (.string ByteArray.empty) := ⟨Tryz.underlying51, by kernel_rfl, rfl, by decide⟩
theorem tFl28_0_LeH : FldT Tryz.prog 28 0 0 = true := by kernel_rfl
theorem tFl44_0_LeH : FldT Tryz.prog 44 0 0 = true := by kernel_rfl
theorem tNa25_LeH : NoAgg Tryz.prog 25 = true := by kernel_rfl
theorem tNa3_LeH : NoAgg Tryz.prog 3 = true := by kernel_rfl
theorem tNa63_LeH : NoAgg Tryz.prog 63 = true := by kernel_rfl
theorem tNa9_LeH : NoAgg Tryz.prog 9 = true := by kernel_rfl
theorem tSl111_LeH : SlT Tryz.prog 111 63 1 = true := by kernel_rfl
theorem tSl25_LeH : SlT Tryz.prog 25 44 2 = true := by kernel_rfl
theorem tSl63_LeH : SlT Tryz.prog 63 3 1 = true := by kernel_rfl

theorem r17Words_no (g : Dfg) (n : Int) (hV : AF Tryz.prog 37 [pDfg g] (· = pBool false)) : AF Tryz.prog 19 [pDfg g, pInt n] (· = .tup [.sl 0 [], pInt 1]) := by
  refine AF.of_body 60 Tryz.func19 rfl Tryz.ntmps19 (Nat.le_of_ble_eq_true rfl) ?_
  intro w0 M0 vs hl hv
  obtain ⟨v0, v1, rfl⟩ := len2 hl
  obtain rfl := hv 1 _ _ rfl rfl
  clear hl hv
  refine nav ?_
  (refine aC_region ?_
    <;> refine s_boxa 2 4 fun h2 => ?_
    <;> refine xL 4 q_assign ?_
    <;> refine xL 5 q_assign ?_
    <;> refine aL_end (nav ?_) <;> try dsimp only)
  (refine aC_region ?_
    <;> (refine yL 12 (q_ldao 2 tAgg28_LeH) fun v12 hv12 => ?_; cases hv12)
    <;> (refine cS 13 (cA Tryz.call37 (hV)) fun v13 hv13 => ?_; cases hv13)
    <;> refine xL 14 q_not ?_
    <;> refine aL_end (nav ?_) <;> try dsimp only)
  refine cCt ?_
  refine nav ?_
  (refine aC_region ?_
    <;> refine xL 4 q_assign ?_
    <;> refine xL 5 q_assign ?_
    <;> refine aL_end (nav ?_) <;> try dsimp only)
  refine aR_ent (nilSlD (t := 4) rfl) fun _ => ?_
  exact ret_ss (Tryz.results19) rfl rfl rfl
theorem r17Words_err (g : Dfg) (n e : Int) (hV : AF Tryz.prog 37 [pDfg g] (· = pBool true)) (hA : AF Tryz.prog 43 [pDfg g] (· = pAut (autG g))) (hW : AF Tryz.prog 65 [pAut (autG g), pInt n] (· = .tup [.sl 0 [], pInt e])) (he : e ≠ 0) : AF Tryz.prog 19 [pDfg g, pInt n] (· = .tup [.sl 0 [], pInt e]) := by
  refine AF.of_body 60 Tryz.func19 rfl Tryz.ntmps19 (Nat.le_of_ble_eq_true rfl) ?_
  intro w0 M0 vs hl hv
  obtain ⟨v0, v1, rfl⟩ := len2 hl
  obtain rfl := hv 1 _ _ rfl rfl
  clear hl hv
  refine nav ?_
  (refine aC_region ?_
    <;> refine s_boxa 2 4 fun h2 => ?_
    <;> refine xL 4 q_assign ?_
    <;> refine xL 5 q_assign ?_
    <;> refine aL_end (nav ?_) <;> try dsimp only)
  (refine aC_region ?_
    <;> (refine yL 12 (q_ldao 2 tAgg28_LeH) fun v12 hv12 => ?_; cases hv12)
    <;> (refine cS 13 (cA Tryz.call37 (hV)) fun v13 hv13 => ?_; cases hv13)
    <;> refine xL 14 q_not ?_
    <;> refine aL_end (nav ?_) <;> try dsimp only)
  refine cCf ?_
  refine nav ?_
  (refine aC_region ?_
    <;> (refine yL 16 (q_ldao 2 tAgg28_LeH) fun v16 hv16 => ?_; cases hv16)
    <;> (refine cD 17 (cA Tryz.call43 hA) fun v17 hv17 => ?_; clear hv17)
    <;> refine xL 18 q_move ?_
    <;> (refine cP 19 (cA Tryz.call65 (hW)) fun va19 vb19 hva19 hvb19 => ?_; cases hvb19)
    <;> refine xL 15 q_move ?_
    <;> refine xL 20 q_extract ?_
    <;> refine xL 21 q_extract ?_
    <;> refine xL 6 q_assign ?_
    <;> refine xL 7 q_assign ?_
    <;> refine aL_end (nav ?_) <;> try dsimp only)
  (refine aC_region ?_
    <;> refine xL 22 q_move ?_
    <;> refine xL 23 q_neq ?_
    <;> refine aL_end (nav ?_) <;> try dsimp only)
  first | refine cCd (fun hb23 => ?_) (fun hb23 => ?_) | refine cC (fun hb23 => ?_) (fun hb23 => ?_)
  · refine nav ?_
    (refine aC_region ?_
      <;> refine xL 24 q_move ?_
      <;> refine xL 4 q_assign ?_
      <;> refine xL 5 q_assign ?_
      <;> refine aL_end (nav ?_) <;> try dsimp only)
    refine aR_ent (nilSlD (t := 4) rfl) fun _ => ?_
    exact ret_ss (Tryz.results19) rfl rfl rfl
  · exact absurd (by simpa using hb23) he
set_option maxHeartbeats 2000000 in
theorem r17Words_ok (g : Dfg) (n : Int) (W : List (List Int)) (hV : AF Tryz.prog 37 [pDfg g] (· = pBool true)) (hA : AF Tryz.prog 43 [pDfg g] (· = pAut (autG g))) (hW : AF Tryz.prog 65 [pAut (autG g), pInt n] (· = .tup [pIntss W, pInt 0])) (hl : W.length ≤ 1000000) (hw : ∀ w ∈ W, w.length ≤ 1000000 ∧ ∀ i ∈ w, 0 ≤ i ∧ i < (g.acts.length : Nat)) : AF Tryz.prog 19 [pDfg g, pInt n] (· = .tup [pStrss (namesWs (cnames g.acts) W), pInt 0]) := by
  refine AF.of_body 60 Tryz.func19 rfl Tryz.ntmps19 (Nat.le_of_ble_eq_true rfl) ?_
  intro w0 M0 vs hl hv
  obtain ⟨v0, v1, rfl⟩ := len2 hl
  obtain rfl := hv 1 _ _ rfl rfl
  clear hl hv
  refine nav ?_
  (refine aC_region ?_
    <;> refine s_boxa 2 4 fun h2 => ?_
    <;> refine xL 4 q_assign ?_
    <;> refine xL 5 q_assign ?_
    <;> refine aL_end (nav ?_) <;> try dsimp only)
  (refine aC_region ?_
    <;> (refine yL 12 (q_ldao 2 tAgg28_LeH) fun v12 hv12 => ?_; cases hv12)
    <;> (refine cS 13 (cA Tryz.call37 (hV)) fun v13 hv13 => ?_; cases hv13)
    <;> refine xL 14 q_not ?_
    <;> refine aL_end (nav ?_) <;> try dsimp only)
  refine cCf ?_
  refine nav ?_
  (refine aC_region ?_
    <;> (refine yL 16 (q_ldao 2 tAgg28_LeH) fun v16 hv16 => ?_; cases hv16)
    <;> (refine cD 17 (cA Tryz.call43 hA) fun v17 hv17 => ?_; clear hv17)
    <;> refine xL 18 q_move ?_
    <;> (refine cP 19 (cA Tryz.call65 (hW)) fun va19 vb19 hva19 hvb19 => ?_; cases hvb19)
    <;> refine xL 15 q_move ?_
    <;> refine xL 20 q_extract ?_
    <;> refine xL 21 q_extract ?_
    <;> refine xL 6 q_assign ?_
    <;> refine xL 7 q_assign ?_
    <;> refine aL_end (nav ?_) <;> try dsimp only)
  (refine aC_region ?_
    <;> refine xL 22 q_move ?_
    <;> refine xL 23 q_neq ?_
    <;> refine aL_end (nav ?_) <;> try dsimp only)
  refine cCf ?_
  refine nav ?_
  (refine aC_region ?_
    <;> refine xL 8 q_assign ?_
    <;> refine aL_end (nav ?_) <;> try dsimp only)
  refine aC_ent (nilOwn 200 51 1 rfl) fun _ => ?_
  (refine aC_region ?_
    <;> refine xL 9 q_assign ?_
    <;> refine aL_end (nav ?_) <;> try dsimp only)
  refine aC_loop (ι := { q : Nat × Value // q.1 ≤ W.length ∧ q.2.oneCell' = true }) (fun k => ⟨[(2, _, _), (6, _, _), (8, k.1.2, .val k.1.2), (9, .int .i64 k.1.1, pInt k.1.1)], [(2, _, _), (200, k.1.2, .own 51 1 (namesWs (cnames g.acts) (W.take k.1.1)).length ((namesWs (cnames g.acts) (W.take k.1.1)).map pStrs))]⟩) (fun k => W.length - k.1.1) ⟨(0, .slice none 0 0), Nat.zero_le _, rfl⟩ (fun a w H => H.weaken ⟨rfl, rfl, rfl, rfl, trivial⟩ ⟨rfl, rfl, trivial⟩) ?_
  rintro ⟨⟨k, hO⟩, hk, hoO⟩
  dsimp only
  dsimp only at hk hoO
  have hnl : (namesWs (cnames g.acts) (W.take k)).length ≤ 1000000 := by unfold namesWs; rw [List.length_map, List.length_take]; omega
  refine nav ?_
  (refine aC_region ?_
    <;> refine xL 25 q_move ?_
    <;> refine xL 26 q_move ?_
    <;> refine xL 27 (q_len tSl111_LeH) ?_
    <;> refine xL 28 q_lss ?_
    <;> refine aL_end (nav ?_) <;> try dsimp only)
  first | refine cCd (fun hb28 => ?_) (fun hb28 => ?_) | refine cC (fun hb28 => ?_) (fun hb28 => ?_)
  · first
    | exact Bool.noConfusion hb28
    | (
     obtain ⟨x, hx⟩ := get_some (show k < W.length by omega)
     have e1 := map_at (f := pInts) hx
     have hxw := hw x (List.mem_of_getElem? hx)
     refine nav ?_
     (refine aC_region ?_
       <;> refine xL 10 q_assign ?_
       <;> refine aL_end (nav ?_) <;> try dsimp only)
     refine aC_ent (nilOwn 201 9 1 rfl) fun _ => ?_
     (refine aC_region ?_
       <;> refine xL 11 q_assign ?_
       <;> refine aL_end (nav ?_) <;> try dsimp only)
     refine aC_loop (ι := { q : Nat × Value // q.1 ≤ x.length ∧ q.2.oneCell' = true }) (fun k => ⟨[(2, _, _), (6, _, _), (8, _, _), (9, _, _), (10, k.1.2, .val k.1.2), (11, .int .i64 k.1.1, pInt k.1.1)], [(2, _, _), (200, _, _), (201, k.1.2, .own 9 1 (namesW (cnames g.acts) (x.take k.1.1)).length ((namesW (cnames g.acts) (x.take k.1.1)).map pStr))]⟩) (fun k => x.length - k.1.1) ⟨(0, .slice none 0 0), Nat.zero_le _, rfl⟩ (fun a w H => H.weaken ⟨rfl, rfl, rfl, rfl, rfl, rfl, trivial⟩ ⟨rfl, rfl, rfl, trivial⟩) ?_
     rintro ⟨⟨j, hI⟩, hj, hoI⟩
     dsimp only
     dsimp only at hj hoI
     have hnj : (namesW (cnames g.acts) (x.take j)).length ≤ 1000000 := by unfold namesW; rw [List.length_map, List.length_take]; omega
     refine nav ?_
     (refine aC_region ?_
       <;> refine xL 31 q_move ?_
       <;> refine xL 32 q_move ?_
       <;> refine xL 33 q_move ?_
       <;> refine xL 34 (q_idxN tSl111_LeH) ?_
       <;> (refine yL 35 (q_ld tNa63_LeH) fun v35 hv35 => ?_; cases hv35)
       <;> refine xL 36 (q_len tSl63_LeH) ?_
       <;> refine xL 37 q_lss ?_
       <;> refine aL_end (nav ?_) <;> try dsimp only)
     first | refine cCd (fun hb37 => ?_) (fun hb37 => ?_) | refine cC (fun hb37 => ?_) (fun hb37 => ?_)
     · first
       | exact Bool.noConfusion hb37
       | (
        obtain ⟨y, hy⟩ := get_some (show j < x.length by omega)
        have e2 := map_at (f := pInt) hy
        have hyb := hxw.2 y (List.mem_of_getElem? hy)
        obtain ⟨z, hz⟩ := get_some (show y.toNat < g.acts.length by omega)
        have e3 : (g.acts.flatMap cCnt)[y.toNat * 2 + 0]? = some (pStr z.name) := flat_at cCnt_len hz (by decide)
        have e4 : nameAt (cnames g.acts) y = z.name := by unfold nameAt cnames; rw [List.getElem?_map, hz]; rfl
        refine nav ?_
        (refine aC_draw (fun i => ([] : List Nat).elem i) [2] (by kernel_rfl) ?_
          <;> refine xD 0 40 rfl q_move ?_
          <;> refine xD 1 41 rfl (q_fldo 2 tFl28_0_LeH) ?_
          <;> (refine yD 2 42 rfl (q_ldo 2 tNa25_LeH) fun v42 hv42 => ?_; cases hv42)
          <;> refine xD 3 43 rfl q_move ?_
          <;> refine xD 4 44 rfl q_move ?_
          <;> refine xD 5 45 rfl (q_idxN tSl111_LeH) ?_
          <;> (refine yD 6 46 rfl (q_ld tNa63_LeH) fun v46 hv46 => ?_; cases hv46)
          <;> refine xE 7 47 rfl q_move ?_
          <;> refine xE 8 48 rfl (q_idxN tSl63_LeH) ?_
          <;> (refine yE 9 49 rfl (q_ld tNa3_LeH) fun v49 hv49 => ?_; cases hv49)
          <;> refine xE 10 50 rfl (q_idx tSl25_LeH) ?_
          <;> refine xE 11 51 rfl (q_fld tFl44_0_LeH) ?_
          <;> (refine yE 12 52 rfl (q_ld tNa9_LeH) fun v52 hv52 => ?_; cases hv52)
          <;> (refine aD_one 13 (by kernel_rfl) ?_)
          <;> (refine aW_run rfl fun w9 M9 N9 DQ back => ?_)
          <;> refine s_lit1 (kk := 1) 53 tEl51_LeH fun h53 ho53 => ?_
          <;> refine aL_end (back _ (nrm ?_))
          <;> (refine aD_one 14 (by kernel_rfl) ?_)
          <;> (refine aW_run rfl fun w9 M9 N9 DQ back => ?_)
          <;> refine s_app 201 53 54 tEl51_LeH fun h54 ho54 => ?_
          <;> refine aL_end (back _ (nrm ?_))
          <;> (refine aD_one 15 (by kernel_rfl) ?_)
          <;> (refine aW_run rfl fun w9 M9 N9 DQ back => ?_)
          <;> refine xL 10 q_assign ?_
          <;> refine aL_end (back _ (nrm ?_))
          <;> refine aD_end (by kernel_rfl) (nav ?_)
          <;> try dsimp only)
        (refine aC_region ?_
          <;> refine xL 38 q_move ?_
          <;> refine xL 39 q_add ?_
          <;> refine xL 11 q_assign ?_
          <;> refine aL_end (nav ?_) <;> try dsimp only)
        refine aN_ent (relabel (l := 54) 201 rfl rfl) fun _ => ?_
        refine aN_ent (recast (l := 201) (p' := .own 9 1 (namesW (cnames g.acts) (x.take (j + 1))).length ((namesW (cnames g.acts) (x.take (j + 1))).map pStr)) rfl (by rw [show namesW (cnames g.acts) (x.take (j + 1)) = namesW (cnames g.acts) (x.take j) ++ [z.name] by unfold namesW; rw [take_snoc hy, List.map_append, ← e4]; rfl]; exact snoc_strs _ _ _)) fun _ => ?_
        refine aN_again (
          ⟨(j + 1, h54), lt_of_get hy, ho54⟩
          ) (by dsimp only; omega) ⟨rfl, rfl, rfl, rfl, rfl, rfl, trivial⟩ ⟨rfl, rfl, rfl, trivial⟩)
     · first
       | exact Bool.noConfusion hb37
       | (
        have hjE : j = x.length := by omega
        subst hjE
        rw [List.take_length]
        refine nav ?_
        (refine aC_region ?_
          <;> refine xL 55 q_move ?_
          <;> (refine xL 56 q_move ?_; refine aL_ent (En.freeze (l := 201) (t := 56) rfl rfl) fun _ => ?_; rw [share_strs])
          <;> refine s_lit1 (kk := 1) 57 tEl36_LeH fun h57 ho57 => ?_
          <;> (refine s_app 200 57 58 tEl36_LeH fun h58 ho58 => ?_; refine aL_ent (relabel (l := 58) 200 rfl rfl) fun _ => ?_)
          <;> refine xL 8 q_assign ?_
          <;> refine aL_end (nav ?_) <;> try dsimp only)
        (refine aC_region ?_
          <;> refine xL 29 q_move ?_
          <;> refine xL 30 q_add ?_
          <;> refine xL 9 q_assign ?_
          <;> refine aL_end (nav ?_) <;> try dsimp only)
        refine aN_ent (recast (l := 200) (p' := .own 51 1 (namesWs (cnames g.acts) (W.take (k + 1))).length ((namesWs (cnames g.acts) (W.take (k + 1))).map pStrs)) rfl (by rw [show namesWs (cnames g.acts) (W.take (k + 1)) = namesWs (cnames g.acts) (W.take k) ++ [namesW (cnames g.acts) x] by unfold namesWs; rw [take_snoc hx, List.map_append]; rfl]; exact snoc_strss _ _ _)) fun _ => ?_
        refine aN_again (
          ⟨(k + 1, h58), lt_of_get hx, ho58⟩
          ) (by dsimp only; omega) ⟨rfl, rfl, rfl, rfl, trivial⟩ ⟨rfl, rfl, trivial⟩))
  · first
    | exact Bool.noConfusion hb28
    | (
     have hkE : k = W.length := by omega
     subst hkE
     rw [List.take_length]
     refine nav ?_
     (refine aC_region ?_
       <;> refine xL 59 q_move ?_
       <;> refine xL 4 q_assign ?_
       <;> refine xL 5 q_assign ?_
       <;> refine aL_end (nav ?_) <;> try dsimp only)
     refine aR_ent (En.freeze (l := 200) (t := 4) rfl rfl) fun _ => ?_
     rw [share_strss _ _ _ rfl]
     exact ret_ss (Tryz.results19) rfl rfl rfl)
theorem r17Words_e (g : Dfg) (n : Int) (hf : fitD g) (ha : g.acts.length ≤ 1000000) : AF Tryz.prog 19 [pDfg g, pInt n] (RDW g n) := by
  have hV := r17Valid_e g hf ha
  cases hb : dfgOk g with
  | false => exact (r17Words_no g n (hV.mono fun p hp => by rw [hp, hb])).mono fun p hp => .inl ⟨hb, hp⟩
  | true =>
    have hV' : AF Tryz.prog 37 [pDfg g] (· = pBool true) := hV.mono fun p hp => by rw [hp, hb]
    have hG := gok_of hb
    have hA' := r17Auto_e g hG
    have hok := autG_ok hG
    have hW := r07Words_e (autG g) n (by have := (aok_of hok).ml; omega)
    by_cases hn : n < 0 ∨ 200 < n
    · refine (r17Words_err g n 2 hV' hA' (hW.mono fun p hp => ?_) (by decide)).mono fun p hp => .inr (.inl ⟨hb, hn, hp⟩)
      rcases hp with ⟨h1, _⟩ | ⟨_, _, h1⟩ | ⟨_, h1, h2, _⟩ | ⟨_, h1, h2, _⟩
      · rw [hok] at h1; cases h1
      · exact h1
      · omega
      · omega
    · by_cases hbig : bigP (autG g) n.toNat
      · refine (r17Words_err g n 5 hV' hA' (hW.mono fun p hp => ?_) (by decide)).mono fun p hp => .inr (.inr (.inl ⟨hb, by omega, by omega, hbig, hp⟩))
        rcases hp with ⟨h1, _⟩ | ⟨_, h1, _⟩ | ⟨_, _, _, _, h1⟩ | ⟨_, _, _, h1, _⟩
        · rw [hok] at h1; cases h1
        · exact absurd h1 hn
        · exact h1
        · exact absurd hbig h1
      · refine (r17Words_ok g n _ hV' hA' (hW.mono fun p hp => ?_) ?_ fun w hw => ?_).mono fun p hp => .inr (.inr (.inr ⟨hb, by omega, by omega, hbig, hp⟩))
        · rcases hp with ⟨h1, _⟩ | ⟨_, h1, _⟩ | ⟨_, _, _, h1, _⟩ | ⟨_, _, _, _, h1⟩
          · rw [hok] at h1; cases h1
          · exact absurd h1 hn
          · exact absurd h1 hbig
          · exact h1
        · have : ¬ 2000 < (sumP (autG g) n.toNat (n.toNat + 1)).length := fun h => hbig (.inr h)
          omega
        · have h1 := sumP_words hw
          exact ⟨by omega, fun i hi => by have := h1.2 i hi; exact this⟩
end Go.Proofs.YtebcjijpdhbcdaaGreat
