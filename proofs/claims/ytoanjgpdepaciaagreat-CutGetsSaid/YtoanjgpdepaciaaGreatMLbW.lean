/-
  Walks of the reference: merged, looped.
-/
import Derived.Test.YtoanjgpdepaciaaGreatMLbX
namespace Go.Proofs.YtoanjgpdepaciaaGreat
open Go.RowKit Go.Cb Go.En
set_option linter.all false
set_option maxRecDepth 100000

theorem tAgg86_LbW : AggT Tryz.prog 86 5 = true := by kernel_rfl
theorem tEl78_LbW : ElT Tryz.prog 78 4 1 1 (.bool false) := ⟨Tryz.underlying78, by kernel_rfl, rfl, by decide⟩
theorem tEl81_LbW : ElT Tryz.prog 81 3 1 8 (.int .i64 0) := ⟨Tryz.underlying81, by kernel_rfl, rfl, by decide⟩
theorem tEl92_LbW : ElT Tryz.prog 92 81 1 24 (.slice none 0 0) := ⟨Tryz.underlying92, by kernel_rfl, rfl, by decide⟩
theorem tFl86_0_LbW : FldT Tryz.prog 86 0 0 = true := by kernel_rfl
theorem tFl86_3_LbW : FldT Tryz.prog 86 3 3 = true := by kernel_rfl
theorem tFl86_4_LbW : FldT Tryz.prog 86 4 4 = true := by kernel_rfl
theorem tNa36_LbW : NoAgg Tryz.prog 36 = true := by kernel_rfl
theorem tNa3_LbW : NoAgg Tryz.prog 3 = true := by kernel_rfl
theorem tNa4_LbW : NoAgg Tryz.prog 4 = true := by kernel_rfl
theorem tNa78_LbW : NoAgg Tryz.prog 78 = true := by kernel_rfl
theorem tNa81_LbW : NoAgg Tryz.prog 81 = true := by kernel_rfl
theorem tSl36_LbW : SlT Tryz.prog 36 9 1 = true := by kernel_rfl
theorem tSl78_LbW : SlT Tryz.prog 78 4 1 = true := by kernel_rfl
theorem tSl81_LbW : SlT Tryz.prog 81 3 1 = true := by kernel_rfl
theorem tSl92_LbW : SlT Tryz.prog 92 81 1 = true := by kernel_rfl
theorem tSz4_LbW : (Tryz.prog.info? 4).map (·.size) = some 1 := by kernel_rfl
theorem tSz81_LbW : (Tryz.prog.info? 81).map (·.size) = some 1 := by kernel_rfl

def cellsM (h0 : Value) : List (List Int) → List PV
  | [] => []
  | _ :: t => PV.val h0 :: t.map pInts
def headL : List (List Int) → List Int
  | [] => []
  | c :: _ => c
theorem merged_cons {W : List Int → Bool} {cs t : List (List Int)} {c0 : List Int} (h : cs.filter W = c0 :: t) : mergedL W cs = (c0 ++ (cs.filter fun c => !W c).flatten) :: t := by unfold mergedL; rw [h]
theorem merged_apart {l : List Int} {r : Int → Int → Bool} {W : List Int → Bool} {cs t : List (List Int)} {c0 : List Int} (hc : Comps l r cs) (h : cs.filter W = c0 :: t) : ((c0 ++ (cs.filter fun c => !W c).flatten) :: t).Pairwise (fun c d => leastI c ≠ leastI d) ∧ (∀ c ∈ (c0 ++ (cs.filter fun c => !W c).flatten) :: t, c ≠ []) := by
  have hperm : ((c0 ++ (cs.filter fun c => !W c).flatten) :: t).flatten.Perm cs.flatten := by
    have h1 := flat_perm (filt_perm W cs)
    rw [h, List.flatten_append, List.flatten_cons] at h1
    refine .trans ?_ h1
    rw [List.flatten_cons, List.append_assoc, List.append_assoc]
    exact (List.perm_append_comm).append_left c0
  have hnd : ((c0 ++ (cs.filter fun c => !W c).flatten) :: t).flatten.Nodup := (hperm.pairwise_iff (R := (· ≠ ·)) fun h => Ne.symm h).2 hc.nd
  have hmem : ∀ c ∈ c0 :: t, c ∈ cs := fun c hm => (List.mem_filter.1 (h ▸ hm)).1
  have hne : ∀ c ∈ (c0 ++ (cs.filter fun c => !W c).flatten) :: t, c ≠ [] := fun c hm => by
    rcases List.mem_cons.1 hm with rfl | hm
    · exact fun e => hc.ne c0 (hmem c0 (by simp)) (List.append_eq_nil_iff.1 e).1
    · exact hc.ne c (hmem c (by simp [hm]))
  refine ⟨?_, hne⟩
  have h2 := (List.pairwise_flatten.1 hnd).2
  refine List.Pairwise.imp_of_mem (fun {a b} ha hb hab e => ?_) h2
  exact hab _ (leastI_spec (hne a ha)).1 _ (leastI_spec (hne b hb)).1 e
theorem flat_sub {cs : List (List Int)} (i : Nat) (p : List Int → Bool) : ((cs.take i).filter p).flatten.length ≤ cs.flatten.length := by
  have h1 := filt_flat p (cs.take i)
  have h2 : (cs.take i).flatten.length ≤ cs.flatten.length := by
    have : cs.flatten = (cs.take i).flatten ++ (cs.drop i).flatten := by rw [← List.flatten_append, List.take_append_drop]
    rw [this, List.length_append]; omega
  omega
set_option maxHeartbeats 2000000 in
theorem rMerged_e (l : List ByteArray) (n : Nat) (E R : Nat → Nat → Bool) (S F : Nat → Bool) (cs : List (List Int)) (r : Int → Int → Bool) (hn : n ≤ 1000) (hc : Comps (upTo n) r cs) : AF Tryz.prog 79 [.agg (cView l n E R S F), pIntss cs] (fun p => ∃ out, out.Perm (mergedL (wholeB S F) cs) ∧ out.Pairwise (fun c d => leastI c < leastI d) ∧ p = pIntss out) := by
  have hin := comps_in hc
  have hfl := nodup_len hc.nd (fun x hx => (hc.mem x).1 hx)
  rw [upTo_len] at hfl
  refine AF.of_body 114 Tryz.func79 rfl Tryz.ntmps79 (Nat.le_of_ble_eq_true rfl) ?_
  intro w0 M0 vs hl hv
  obtain ⟨v0, v1, rfl⟩ := len2 hl
  clear hl hv
  dsimp only [cView]
  refine nav ?_
  (refine aC_region ?_
    <;> refine s_boxa 2 5 fun h2 => ?_
    <;> refine xL 4 q_assign ?_
    <;> refine aL_end (nav ?_) <;> try dsimp only)
  (refine aC_region ?_
    <;> refine xL 5 q_assign ?_
    <;> refine aL_end (nav ?_) <;> try dsimp only)
  refine aC_loop (ι := { k : Nat // k ≤ cs.length ∧ ∀ j y, j < k → cs[j]? = some y → wholeB S F y = false }) (fun k => ⟨[(1, _, _), (2, _, _), (5, .int .i64 k.1, pInt k.1)], [(2, _, _)]⟩) (fun k => cs.length - k.1) ⟨0, Nat.zero_le _, fun j y h => absurd h (Nat.not_lt_zero j)⟩ (fun a w H => H.weaken ⟨rfl, rfl, rfl, trivial⟩ ⟨rfl, trivial⟩) ?_
  rintro ⟨k, hk, hkp⟩
  dsimp only
  obtain ⟨d, hdd⟩ : ∃ d, d = cs[k]?.getD [] := ⟨_, rfl⟩
  have hd : k < cs.length → cs[k]? = some d := fun h => by obtain ⟨y, hy⟩ := get_some h; rw [hdd, hy]; rfl
  have e3 : k < cs.length → (cs.map pInts)[k * 1]? = some (pInts d) := fun h => map_at (f := pInts) (hd h)
  have hdb : ∀ x ∈ d, 0 ≤ x ∧ x < n := by
    rw [hdd]
    cases ho : cs[k]? with
    | none => simp
    | some y => exact hin.1 y (List.mem_of_getElem? ho)
  have hdl : d.length ≤ 1000000 := by
    rw [hdd]
    cases ho : cs[k]? with
    | none => simp
    | some y => have := hin.2.2 y (List.mem_of_getElem? ho); simp only [Option.getD_some]; omega
  refine nav ?_
  (refine aC_draw (fun i => ([] : List Nat).elem i) [2] (by kernel_rfl) ?_
    <;> refine xD 0 10 rfl q_move ?_
    <;> refine xE 1 11 rfl q_move ?_
    <;> refine xE 2 12 rfl (q_len tSl92_LbW) ?_
    <;> refine xE 3 13 rfl q_lss ?_
    <;> refine xE 4 14 rfl q_move ?_
    <;> (refine bDd 14 (fun hb14 => ?_) (fun hb14 => ?_) <;> (first | refine kD 5 15 rfl ?_ | refine xD 5 15 rfl q_move ?_))
    <;> (first | refine kD 6 16 rfl ?_ | refine xD 6 16 rfl q_move ?_)
    <;> (first | refine kD 7 17 rfl ?_ | refine xD 7 17 rfl (q_idxN tSl92_LbW) ?_)
    <;> (first | refine kD 8 18 rfl ?_ | (refine yD 8 18 rfl (q_ld tNa81_LbW (hp := e3 (by omega))) fun v18 hv18 => ?_; cases hv18))
    <;> (first | refine kD 9 19 rfl ?_ | refine xD 9 19 rfl (q_fldo 2 tFl86_3_LbW) ?_)
    <;> (first | refine kD 10 20 rfl ?_ | (refine yD 10 20 rfl (q_ldo 2 tNa78_LbW) fun v20 hv20 => ?_; cases hv20))
    <;> (refine aD_one 11 (by kernel_rfl) ?_)
    <;> (first | (refine aW_call (d := 21) rfl (cA Tryz.call114 (rSome36_e d n S hdb hdl)) fun v21 hv21 => ?_; cases hv21) | (refine aW_run rfl fun w9 M9 N9 DQ back => ?_; refine kL 21 ?_; refine aL_end (back _ (nrm ?_))))
    <;> (first | refine kD 12 22 rfl ?_ | refine xD 12 22 rfl q_not ?_)
    <;> (first | refine kD 13 23 rfl ?_ | refine xD 13 23 rfl q_move ?_)
    <;> (first | refine kD 14 24 rfl ?_ | (refine bD 23 (fun hb23 => ?_) (fun hb23 => ?_) <;> (first | refine kD 14 24 rfl ?_ | refine xD 14 24 rfl q_move ?_)))
    <;> (first | refine kD 15 25 rfl ?_ | refine xD 15 25 rfl q_move ?_)
    <;> (first | refine kD 16 26 rfl ?_ | refine xD 16 26 rfl (q_idxN tSl92_LbW) ?_)
    <;> (first | refine kD 17 27 rfl ?_ | (refine yD 17 27 rfl (q_ld tNa81_LbW (hp := e3 (by omega))) fun v27 hv27 => ?_; cases hv27))
    <;> (first | refine kD 18 28 rfl ?_ | refine xD 18 28 rfl (q_fldo 2 tFl86_4_LbW) ?_)
    <;> (first | refine kD 19 29 rfl ?_ | (refine yD 19 29 rfl (q_ldo 2 tNa78_LbW) fun v29 hv29 => ?_; cases hv29))
    <;> (refine aD_one 20 (by kernel_rfl) ?_)
    <;> (first | (refine aW_call (d := 30) rfl (cA Tryz.call114 (rSome36_e d n F hdb hdl)) fun v30 hv30 => ?_; cases hv30) | (refine aW_run rfl fun w9 M9 N9 DQ back => ?_; refine kL 30 ?_; refine aL_end (back _ (nrm ?_))))
    <;> (first | refine kD 21 31 rfl ?_ | refine xD 21 31 rfl q_not ?_)
    <;> (first | refine kD 22 32 rfl ?_ | refine xD 22 32 rfl q_pick ?_)
    <;> refine xE 23 33 rfl q_pick ?_
    <;> refine aD_end (by kernel_rfl) (nav ?_)
    <;> try dsimp only) <;> (
   first | refine cCd (fun hb33 => ?_) (fun hb33 => ?_) | refine cC (fun hb33 => ?_) (fun hb33 => ?_)
   · first
     | exact Bool.noConfusion hb33
     | (
      refine nav ?_
      (refine aC_region ?_
        <;> refine xL 34 q_move ?_
        <;> refine xL 35 q_add ?_
        <;> refine xL 5 q_assign ?_
        <;> refine aL_end (nav ?_) <;> try dsimp only)
      refine aN_again (
        ⟨k + 1, by omega, fun j y hj hy => by
          by_cases e : j = k
          · subst e; rw [hd (by omega)] at hy; cases hy; unfold wholeB
            first
              | (rw [show anyF d S = false by simpa using hb23]; rfl)
              | (rw [show anyF d F = false by simpa using hb33]; exact Bool.and_false _)
          · exact hkp j y (by omega) hy⟩
        ) (by dsimp only; omega) ⟨rfl, rfl, rfl, trivial⟩ ⟨rfl, trivial⟩)
   · first
     | exact Bool.noConfusion hb33
     | (
      refine nav ?_
      (refine aC_region ?_
        <;> refine xL 36 q_move ?_
        <;> refine xL 37 q_move ?_
        <;> refine xL 38 (q_len tSl92_LbW) ?_
        <;> refine xL 39 q_eql ?_
        <;> refine aL_end (nav ?_) <;> try dsimp only)
      first | refine cCd (fun hb39 => ?_) (fun hb39 => ?_) | refine cC (fun hb39 => ?_) (fun hb39 => ?_)
      · first
        | exact Bool.noConfusion hb39
        | (
         refine nav ?_
         (refine aC_region ?_
           <;> refine xL 4 q_assign ?_
           <;> refine aL_end (nav ?_) <;> try dsimp only)
         refine aR_ent (nilOwn 200 81 1 rfl) fun _ => ?_
         refine aR_ent (En.freeze (l := 200) (t := 4) rfl rfl) fun _ => ?_
         rw [shr_intss' _ _ _ [] (by rfl) (by rfl)]
         have hkl : k = cs.length := by omega
         have hfn := filt_none (p := wholeB S F) (l := cs) k hkp
         rw [hkl, List.take_length] at hfn
         exact ret_shr (Tryz.results79) rfl ⟨[], by unfold mergedL; rw [hfn], List.Pairwise.nil, rfl⟩)
      · first
        | exact Bool.noConfusion hb39
        | (
         refine nav ?_
         (refine aC_region ?_
           <;> refine xL 6 q_assign ?_
           <;> refine aL_end (nav ?_) <;> try dsimp only)
         (refine aC_region ?_
           <;> refine xL 7 q_assign ?_
           <;> refine aL_end (nav ?_) <;> try dsimp only)
         (refine aC_region ?_
           <;> refine xL 8 q_assign ?_
           <;> refine aL_end (nav ?_) <;> try dsimp only)
         have hkl : k < cs.length := by omega
         have hck := hd hkl
         have hW : wholeB S F d = true := by first | (exfalso; omega) | (unfold wholeB; rw [show anyF d S = true by simpa using hb23, show anyF d F = true by simpa using hb33]; rfl)
         refine aC_ent (nilOwn 200 81 1 rfl) fun _ => ?_
         refine aC_ent (nilOwn 201 3 1 rfl) fun _ => ?_
         refine aC_loop (ι := { x : Nat × Value × Value × List (List Int) // x.1 ≤ cs.length ∧ x.2.2.1.oneCell' = true ∧ x.2.2.2 = (cs.take x.1).filter (wholeB S F) }) (fun k => ⟨[(1, _, _), (2, _, _), (5, _, _), (7, _, _), (6, k.1.2.1, .val k.1.2.1), (8, .int .i64 k.1.1, pInt k.1.1)], [(2, _, _), (200, k.1.2.1, .own 81 1 k.1.2.2.2.length (cellsM k.1.2.2.1 k.1.2.2.2)), (201, k.1.2.2.1, .own 3 1 (headL k.1.2.2.2).length ((headL k.1.2.2.2).map pInt))]⟩) (fun k => cs.length - k.1.1) ⟨(0, .slice none 0 0, .slice none 0 0, []), Nat.zero_le _, rfl, rfl⟩ (fun a w H => H.weaken ⟨rfl, rfl, rfl, rfl, rfl, rfl, trivial⟩ ⟨rfl, rfl, rfl, trivial⟩) ?_
         rintro ⟨⟨i, hov, h0, X⟩, hi, ho0, hX⟩
         dsimp only
         dsimp only at hi ho0 hX
         have hXl : X.length ≤ 1000 := by
           have := List.length_filter_le (wholeB S F) (cs.take i)
           rw [hX]; rw [List.length_take] at this; omega
         have hX0 : i ≤ k → X = [] := fun h => by rw [hX]; exact filt_none i fun j y hj => hkp j y (by omega)
         refine nav ?_
         (refine aC_region ?_
           <;> refine xL 40 q_move ?_
           <;> refine xL 41 q_move ?_
           <;> refine xL 42 (q_len tSl92_LbW) ?_
           <;> refine xL 43 q_lss ?_
           <;> refine aL_end (nav ?_) <;> try dsimp only)
         first | refine cCd (fun hb43 => ?_) (fun hb43 => ?_) | refine cC (fun hb43 => ?_) (fun hb43 => ?_)
         · first
           | exact Bool.noConfusion hb43
           | (
            obtain ⟨cl, hx⟩ := get_some (show i < cs.length by omega)
            have e1 := map_at (f := pInts) hx
            have hcm := List.mem_of_getElem? hx
            have hcb := hin.1 cl hcm
            have hcll := hin.2.2 cl hcm
            have e2 : (cl.map pInt).length = cl.length * 1 := by rw [List.length_map, Nat.mul_one]
            have e4 : (cl.map pInt).all En.one = true := by rw [List.all_map, List.all_eq_true]; intro x _; rfl
            have s1 := filt_snoc (p := wholeB S F) hx
            have hX1 : wholeB S F cl = true → i ≠ k → ∃ c0 t, X = c0 :: t := fun hw hne => by
              have hik : k < i := by
                rcases Nat.lt_trichotomy i k with h | h | h
                · rw [hkp i cl h hx] at hw; exact Bool.noConfusion hw
                · exact absurd h hne
                · exact h
              have hm : d ∈ X := by
                rw [hX]
                exact List.mem_filter.2 ⟨List.mem_of_getElem? (i := k) (by rw [List.getElem?_take_of_lt hik]; exact hck), hW⟩
              cases X with
              | nil => simp at hm
              | cons c0 t => exact ⟨c0, t, rfl⟩
            refine nav ?_
            (refine aC_region ?_
              <;> refine xL 46 q_move ?_
              <;> refine xL 47 q_move ?_
              <;> refine xL 48 q_eql ?_
              <;> refine aL_end (nav ?_) <;> try dsimp only)
            first | refine cCd (fun hb48 => ?_) (fun hb48 => ?_) | refine cC (fun hb48 => ?_) (fun hb48 => ?_)
            · first
              | exact Bool.noConfusion hb48
              | (
               obtain rfl : X = [] := hX0 (by omega)
               try dsimp only [cellsM, headL, List.length_nil]
               refine nav ?_
               (refine aC_region ?_
                 <;> refine xL 49 q_move ?_
                 <;> refine xL 50 (q_leno 200 tSl92_LbW) ?_
                 <;> refine xL 7 q_assign ?_
                 <;> refine aL_end (nav ?_) <;> try dsimp only)
               (refine aC_draw (fun i => ([] : List Nat).elem i) [2, 200, 201] (by kernel_rfl) ?_
                 <;> refine xD 0 51 rfl q_move ?_
                 <;> refine xD 1 52 rfl q_move ?_
                 <;> refine xD 2 53 rfl (q_idxN tSl92_LbW) ?_
                 <;> (refine yD 3 54 rfl (q_ld tNa81_LbW) fun v54 hv54 => ?_; cases hv54)
                 <;> refine xE 4 55 rfl (q_fldo 2 tFl86_3_LbW) ?_
                 <;> (refine yE 5 56 rfl (q_ldo 2 tNa78_LbW) fun v56 hv56 => ?_; cases hv56)
                 <;> (refine aD_one 6 (by kernel_rfl) ?_)
                 <;> (refine aW_call (d := 57) rfl (cA Tryz.call114 (rSome36_e cl n S hcb (by omega))) fun v57 hv57 => ?_; cases hv57)
                 <;> refine xE 7 58 rfl q_move ?_
                 <;> (refine bD 58 (fun hb58 => ?_) (fun hb58 => ?_) <;> (first | refine kD 8 59 rfl ?_ | refine xD 8 59 rfl q_move ?_))
                 <;> (first | refine kD 9 60 rfl ?_ | refine xD 9 60 rfl q_move ?_)
                 <;> (first | refine kD 10 61 rfl ?_ | refine xD 10 61 rfl (q_idxN tSl92_LbW) ?_)
                 <;> (first | refine kD 11 62 rfl ?_ | (refine yD 11 62 rfl (q_ld tNa81_LbW) fun v62 hv62 => ?_; cases hv62))
                 <;> (first | refine kD 12 63 rfl ?_ | refine xD 12 63 rfl (q_fldo 2 tFl86_4_LbW) ?_)
                 <;> (first | refine kD 13 64 rfl ?_ | (refine yD 13 64 rfl (q_ldo 2 tNa78_LbW) fun v64 hv64 => ?_; cases hv64))
                 <;> (refine aD_one 14 (by kernel_rfl) ?_)
                 <;> (first | (refine aW_call (d := 65) rfl (cA Tryz.call114 (rSome36_e cl n F hcb (by omega))) fun v65 hv65 => ?_; cases hv65) | (refine aW_run rfl fun w9 M9 N9 DQ back => ?_; refine kL 65 ?_; refine aL_end (back _ (nrm ?_))))
                 <;> refine xE 15 66 rfl q_pick ?_
                 <;> refine aD_end (by kernel_rfl) (nav ?_)
                 <;> try dsimp only) <;> (
                first | refine cCd (fun hb66 => ?_) (fun hb66 => ?_) | refine cC (fun hb66 => ?_) (fun hb66 => ?_)
                · first
                  | exact Bool.noConfusion hb66
                  | (
                   have hwc : wholeB S F cl = true := by unfold wholeB; rw [show anyF cl S = true by assumption, show anyF cl F = true by assumption]; rfl
                   try obtain ⟨c0, t, rfl⟩ := hX1 hwc (by omega)
                   try dsimp only [cellsM, headL]
                   refine nav ?_
                   (refine aC_region ?_
                     <;> refine xL 67 q_move ?_
                     <;> refine s_lit0 68 tEl81_LbW fun h68 ho68 => ?_
                     <;> refine xL 69 q_move ?_
                     <;> refine xL 70 q_move ?_
                     <;> refine xL 71 (q_idxN tSl92_LbW) ?_
                     <;> (refine yL 72 (q_ld tNa81_LbW) fun v72 hv72 => ?_; cases hv72)
                     <;> refine s_apps 68 73 tEl81_LbW fun h73 ho73 => ?_
                     <;> refine s_lit1 (kk := 1) 74 tEl92_LbW fun h74 ho74 => ?_
                     <;> refine s_app 200 74 75 tEl92_LbW fun h75 ho75 => ?_
                     <;> refine xL 6 q_assign ?_
                     <;> refine aL_end (nav ?_) <;> try dsimp only)
                   (refine aC_region ?_
                     <;> refine xL 44 q_move ?_
                     <;> refine xL 45 q_add ?_
                     <;> refine xL 8 q_assign ?_
                     <;> refine aL_end (nav ?_) <;> try dsimp only)
                   try rw [Nat.zero_add cl.length]
                   try rw [List.nil_append (cl.map pInt)]
                   first | refine aN_ent (freezeCell (l := 75) (l' := 73) (j := (c0 :: t).length) rfl (lsnoc_at (by simp)) rfl rfl) fun _ => ?_ | (have _q := h75; refine aN_ent (dropL 201) fun _ => ?_) | skip
                   try rw [lsnoc_set (show (c0 :: t).length = (PV.val h0 :: t.map pInts).length by simp), share_intl _ _ _ (by rfl)]
                   try rw [show (PV.val h0 :: t.map pInts) ++ [pInts cl] = cellsM h0 (c0 :: t ++ [cl]) by simp [cellsM], show (c0 :: t).length + 1 = (c0 :: t ++ [cl]).length by simp]
                   try refine aN_ent (relabel (l := 75) 200 rfl rfl) fun _ => ?_
                   try refine aN_ent (relabel (l := 73) 201 rfl rfl) fun _ => ?_
                   first
                     | (exact aN_again (
                         ⟨(i + 1, h75, h73, [cl]), by show i + 1 ≤ cs.length; omega, ho73, by show [cl] = _; rw [s1, if_pos hwc, ← hX]; rfl⟩
                         ) (by show cs.length - (i + 1) < cs.length - i; omega) ⟨rfl, rfl, rfl, rfl, rfl, rfl, trivial⟩ ⟨rfl, rfl, rfl, trivial⟩)
                     | (exact aN_again (
                         ⟨(i + 1, hov, h0, X), by show i + 1 ≤ cs.length; omega, ho0, by show X = _; rw [s1, if_neg (by unfold wholeB; first | (rw [show anyF cl S = false by assumption]; exact Bool.false_ne_true) | (rw [show anyF cl F = false by assumption, Bool.and_false]; exact Bool.false_ne_true)), List.append_nil, hX]⟩
                         ) (by show cs.length - (i + 1) < cs.length - i; omega) ⟨rfl, rfl, rfl, rfl, rfl, rfl, trivial⟩ ⟨rfl, rfl, rfl, trivial⟩)
                     | (exact aN_again (
                         ⟨(i + 1, hov, h0, []), by show i + 1 ≤ cs.length; omega, ho0, by show [] = _; rw [s1, if_neg (by unfold wholeB; first | (rw [show anyF cl S = false by assumption]; exact Bool.false_ne_true) | (rw [show anyF cl F = false by assumption, Bool.and_false]; exact Bool.false_ne_true)), List.append_nil]; exact hX⟩
                         ) (by show cs.length - (i + 1) < cs.length - i; omega) ⟨rfl, rfl, rfl, rfl, rfl, rfl, trivial⟩ ⟨rfl, rfl, rfl, trivial⟩)
                     | (exact aN_again (
                         ⟨(i + 1, h75, h0, c0 :: t ++ [cl]), by show i + 1 ≤ cs.length; omega, ho0, by show c0 :: t ++ [cl] = _; rw [s1, if_pos hwc, hX]⟩
                         ) (by show cs.length - (i + 1) < cs.length - i; omega) ⟨rfl, rfl, rfl, rfl, rfl, rfl, trivial⟩ ⟨rfl, rfl, rfl, trivial⟩))
                · first
                  | exact Bool.noConfusion hb66
                  | (
                   refine nav ?_
                   (refine aC_region ?_
                     <;> refine xL 44 q_move ?_
                     <;> refine xL 45 q_add ?_
                     <;> refine xL 8 q_assign ?_
                     <;> refine aL_end (nav ?_) <;> try dsimp only)
                   try rw [Nat.zero_add cl.length]
                   try rw [List.nil_append (cl.map pInt)]
                   first | refine aN_ent (freezeCell (l := 75) (l' := 73) (j := (c0 :: t).length) rfl (lsnoc_at (by simp)) rfl rfl) fun _ => ?_ | (have _q := h75; refine aN_ent (dropL 201) fun _ => ?_) | skip
                   try rw [lsnoc_set (show (c0 :: t).length = (PV.val h0 :: t.map pInts).length by simp), share_intl _ _ _ (by rfl)]
                   try rw [show (PV.val h0 :: t.map pInts) ++ [pInts cl] = cellsM h0 (c0 :: t ++ [cl]) by simp [cellsM], show (c0 :: t).length + 1 = (c0 :: t ++ [cl]).length by simp]
                   try refine aN_ent (relabel (l := 75) 200 rfl rfl) fun _ => ?_
                   try refine aN_ent (relabel (l := 73) 201 rfl rfl) fun _ => ?_
                   first
                     | (exact aN_again (
                         ⟨(i + 1, h75, h73, [cl]), by show i + 1 ≤ cs.length; omega, ho73, by show [cl] = _; rw [s1, if_pos hwc, ← hX]; rfl⟩
                         ) (by show cs.length - (i + 1) < cs.length - i; omega) ⟨rfl, rfl, rfl, rfl, rfl, rfl, trivial⟩ ⟨rfl, rfl, rfl, trivial⟩)
                     | (exact aN_again (
                         ⟨(i + 1, hov, h0, X), by show i + 1 ≤ cs.length; omega, ho0, by show X = _; rw [s1, if_neg (by unfold wholeB; first | (rw [show anyF cl S = false by assumption]; exact Bool.false_ne_true) | (rw [show anyF cl F = false by assumption, Bool.and_false]; exact Bool.false_ne_true)), List.append_nil, hX]⟩
                         ) (by show cs.length - (i + 1) < cs.length - i; omega) ⟨rfl, rfl, rfl, rfl, rfl, rfl, trivial⟩ ⟨rfl, rfl, rfl, trivial⟩)
                     | (exact aN_again (
                         ⟨(i + 1, hov, h0, []), by show i + 1 ≤ cs.length; omega, ho0, by show [] = _; rw [s1, if_neg (by unfold wholeB; first | (rw [show anyF cl S = false by assumption]; exact Bool.false_ne_true) | (rw [show anyF cl F = false by assumption, Bool.and_false]; exact Bool.false_ne_true)), List.append_nil]; exact hX⟩
                         ) (by show cs.length - (i + 1) < cs.length - i; omega) ⟨rfl, rfl, rfl, rfl, rfl, rfl, trivial⟩ ⟨rfl, rfl, rfl, trivial⟩)
                     | (exact aN_again (
                         ⟨(i + 1, h75, h0, c0 :: t ++ [cl]), by show i + 1 ≤ cs.length; omega, ho0, by show c0 :: t ++ [cl] = _; rw [s1, if_pos hwc, hX]⟩
                         ) (by show cs.length - (i + 1) < cs.length - i; omega) ⟨rfl, rfl, rfl, rfl, rfl, rfl, trivial⟩ ⟨rfl, rfl, rfl, trivial⟩))))
            · first
              | exact Bool.noConfusion hb48
              | (
               refine nav ?_
               (refine aC_draw (fun i => ([] : List Nat).elem i) [2, 200, 201] (by kernel_rfl) ?_
                 <;> refine xD 0 51 rfl q_move ?_
                 <;> refine xD 1 52 rfl q_move ?_
                 <;> refine xD 2 53 rfl (q_idxN tSl92_LbW) ?_
                 <;> (refine yD 3 54 rfl (q_ld tNa81_LbW) fun v54 hv54 => ?_; cases hv54)
                 <;> refine xE 4 55 rfl (q_fldo 2 tFl86_3_LbW) ?_
                 <;> (refine yE 5 56 rfl (q_ldo 2 tNa78_LbW) fun v56 hv56 => ?_; cases hv56)
                 <;> (refine aD_one 6 (by kernel_rfl) ?_)
                 <;> (refine aW_call (d := 57) rfl (cA Tryz.call114 (rSome36_e cl n S hcb (by omega))) fun v57 hv57 => ?_; cases hv57)
                 <;> refine xE 7 58 rfl q_move ?_
                 <;> (refine bD 58 (fun hb58 => ?_) (fun hb58 => ?_) <;> (first | refine kD 8 59 rfl ?_ | refine xD 8 59 rfl q_move ?_))
                 <;> (first | refine kD 9 60 rfl ?_ | refine xD 9 60 rfl q_move ?_)
                 <;> (first | refine kD 10 61 rfl ?_ | refine xD 10 61 rfl (q_idxN tSl92_LbW) ?_)
                 <;> (first | refine kD 11 62 rfl ?_ | (refine yD 11 62 rfl (q_ld tNa81_LbW) fun v62 hv62 => ?_; cases hv62))
                 <;> (first | refine kD 12 63 rfl ?_ | refine xD 12 63 rfl (q_fldo 2 tFl86_4_LbW) ?_)
                 <;> (first | refine kD 13 64 rfl ?_ | (refine yD 13 64 rfl (q_ldo 2 tNa78_LbW) fun v64 hv64 => ?_; cases hv64))
                 <;> (refine aD_one 14 (by kernel_rfl) ?_)
                 <;> (first | (refine aW_call (d := 65) rfl (cA Tryz.call114 (rSome36_e cl n F hcb (by omega))) fun v65 hv65 => ?_; cases hv65) | (refine aW_run rfl fun w9 M9 N9 DQ back => ?_; refine kL 65 ?_; refine aL_end (back _ (nrm ?_))))
                 <;> refine xE 15 66 rfl q_pick ?_
                 <;> refine aD_end (by kernel_rfl) (nav ?_)
                 <;> try dsimp only) <;> (
                first | refine cCd (fun hb66 => ?_) (fun hb66 => ?_) | refine cC (fun hb66 => ?_) (fun hb66 => ?_)
                · first
                  | exact Bool.noConfusion hb66
                  | (
                   have hwc : wholeB S F cl = true := by unfold wholeB; rw [show anyF cl S = true by assumption, show anyF cl F = true by assumption]; rfl
                   try obtain ⟨c0, t, rfl⟩ := hX1 hwc (by omega)
                   try dsimp only [cellsM, headL]
                   refine nav ?_
                   (refine aC_region ?_
                     <;> refine xL 67 q_move ?_
                     <;> refine s_lit0 68 tEl81_LbW fun h68 ho68 => ?_
                     <;> refine xL 69 q_move ?_
                     <;> refine xL 70 q_move ?_
                     <;> refine xL 71 (q_idxN tSl92_LbW) ?_
                     <;> (refine yL 72 (q_ld tNa81_LbW) fun v72 hv72 => ?_; cases hv72)
                     <;> refine s_apps 68 73 tEl81_LbW fun h73 ho73 => ?_
                     <;> refine s_lit1 (kk := 1) 74 tEl92_LbW fun h74 ho74 => ?_
                     <;> refine s_app 200 74 75 tEl92_LbW fun h75 ho75 => ?_
                     <;> refine xL 6 q_assign ?_
                     <;> refine aL_end (nav ?_) <;> try dsimp only)
                   (refine aC_region ?_
                     <;> refine xL 44 q_move ?_
                     <;> refine xL 45 q_add ?_
                     <;> refine xL 8 q_assign ?_
                     <;> refine aL_end (nav ?_) <;> try dsimp only)
                   try rw [Nat.zero_add cl.length]
                   try rw [List.nil_append (cl.map pInt)]
                   first | refine aN_ent (freezeCell (l := 75) (l' := 73) (j := (c0 :: t).length) rfl (lsnoc_at (by simp)) rfl rfl) fun _ => ?_ | (have _q := h75; refine aN_ent (dropL 201) fun _ => ?_) | skip
                   try rw [lsnoc_set (show (c0 :: t).length = (PV.val h0 :: t.map pInts).length by simp), share_intl _ _ _ (by rfl)]
                   try rw [show (PV.val h0 :: t.map pInts) ++ [pInts cl] = cellsM h0 (c0 :: t ++ [cl]) by simp [cellsM], show (c0 :: t).length + 1 = (c0 :: t ++ [cl]).length by simp]
                   try refine aN_ent (relabel (l := 75) 200 rfl rfl) fun _ => ?_
                   try refine aN_ent (relabel (l := 73) 201 rfl rfl) fun _ => ?_
                   first
                     | (exact aN_again (
                         ⟨(i + 1, h75, h73, [cl]), by show i + 1 ≤ cs.length; omega, ho73, by show [cl] = _; rw [s1, if_pos hwc, ← hX]; rfl⟩
                         ) (by show cs.length - (i + 1) < cs.length - i; omega) ⟨rfl, rfl, rfl, rfl, rfl, rfl, trivial⟩ ⟨rfl, rfl, rfl, trivial⟩)
                     | (exact aN_again (
                         ⟨(i + 1, hov, h0, X), by show i + 1 ≤ cs.length; omega, ho0, by show X = _; rw [s1, if_neg (by unfold wholeB; first | (rw [show anyF cl S = false by assumption]; exact Bool.false_ne_true) | (rw [show anyF cl F = false by assumption, Bool.and_false]; exact Bool.false_ne_true)), List.append_nil, hX]⟩
                         ) (by show cs.length - (i + 1) < cs.length - i; omega) ⟨rfl, rfl, rfl, rfl, rfl, rfl, trivial⟩ ⟨rfl, rfl, rfl, trivial⟩)
                     | (exact aN_again (
                         ⟨(i + 1, hov, h0, []), by show i + 1 ≤ cs.length; omega, ho0, by show [] = _; rw [s1, if_neg (by unfold wholeB; first | (rw [show anyF cl S = false by assumption]; exact Bool.false_ne_true) | (rw [show anyF cl F = false by assumption, Bool.and_false]; exact Bool.false_ne_true)), List.append_nil]; exact hX⟩
                         ) (by show cs.length - (i + 1) < cs.length - i; omega) ⟨rfl, rfl, rfl, rfl, rfl, rfl, trivial⟩ ⟨rfl, rfl, rfl, trivial⟩)
                     | (exact aN_again (
                         ⟨(i + 1, h75, h0, c0 :: t ++ [cl]), by show i + 1 ≤ cs.length; omega, ho0, by show c0 :: t ++ [cl] = _; rw [s1, if_pos hwc, hX]⟩
                         ) (by show cs.length - (i + 1) < cs.length - i; omega) ⟨rfl, rfl, rfl, rfl, rfl, rfl, trivial⟩ ⟨rfl, rfl, rfl, trivial⟩))
                · first
                  | exact Bool.noConfusion hb66
                  | (
                   refine nav ?_
                   (refine aC_region ?_
                     <;> refine xL 44 q_move ?_
                     <;> refine xL 45 q_add ?_
                     <;> refine xL 8 q_assign ?_
                     <;> refine aL_end (nav ?_) <;> try dsimp only)
                   try rw [Nat.zero_add cl.length]
                   try rw [List.nil_append (cl.map pInt)]
                   first | refine aN_ent (freezeCell (l := 75) (l' := 73) (j := (c0 :: t).length) rfl (lsnoc_at (by simp)) rfl rfl) fun _ => ?_ | (have _q := h75; refine aN_ent (dropL 201) fun _ => ?_) | skip
                   try rw [lsnoc_set (show (c0 :: t).length = (PV.val h0 :: t.map pInts).length by simp), share_intl _ _ _ (by rfl)]
                   try rw [show (PV.val h0 :: t.map pInts) ++ [pInts cl] = cellsM h0 (c0 :: t ++ [cl]) by simp [cellsM], show (c0 :: t).length + 1 = (c0 :: t ++ [cl]).length by simp]
                   try refine aN_ent (relabel (l := 75) 200 rfl rfl) fun _ => ?_
                   try refine aN_ent (relabel (l := 73) 201 rfl rfl) fun _ => ?_
                   first
                     | (exact aN_again (
                         ⟨(i + 1, h75, h73, [cl]), by show i + 1 ≤ cs.length; omega, ho73, by show [cl] = _; rw [s1, if_pos hwc, ← hX]; rfl⟩
                         ) (by show cs.length - (i + 1) < cs.length - i; omega) ⟨rfl, rfl, rfl, rfl, rfl, rfl, trivial⟩ ⟨rfl, rfl, rfl, trivial⟩)
                     | (exact aN_again (
                         ⟨(i + 1, hov, h0, X), by show i + 1 ≤ cs.length; omega, ho0, by show X = _; rw [s1, if_neg (by unfold wholeB; first | (rw [show anyF cl S = false by assumption]; exact Bool.false_ne_true) | (rw [show anyF cl F = false by assumption, Bool.and_false]; exact Bool.false_ne_true)), List.append_nil, hX]⟩
                         ) (by show cs.length - (i + 1) < cs.length - i; omega) ⟨rfl, rfl, rfl, rfl, rfl, rfl, trivial⟩ ⟨rfl, rfl, rfl, trivial⟩)
                     | (exact aN_again (
                         ⟨(i + 1, hov, h0, []), by show i + 1 ≤ cs.length; omega, ho0, by show [] = _; rw [s1, if_neg (by unfold wholeB; first | (rw [show anyF cl S = false by assumption]; exact Bool.false_ne_true) | (rw [show anyF cl F = false by assumption, Bool.and_false]; exact Bool.false_ne_true)), List.append_nil]; exact hX⟩
                         ) (by show cs.length - (i + 1) < cs.length - i; omega) ⟨rfl, rfl, rfl, rfl, rfl, rfl, trivial⟩ ⟨rfl, rfl, rfl, trivial⟩)
                     | (exact aN_again (
                         ⟨(i + 1, h75, h0, c0 :: t ++ [cl]), by show i + 1 ≤ cs.length; omega, ho0, by show c0 :: t ++ [cl] = _; rw [s1, if_pos hwc, hX]⟩
                         ) (by show cs.length - (i + 1) < cs.length - i; omega) ⟨rfl, rfl, rfl, rfl, rfl, rfl, trivial⟩ ⟨rfl, rfl, rfl, trivial⟩)))))
         · first
           | exact Bool.noConfusion hb43
           | (
            refine nav ?_
            (refine aC_region ?_
              <;> refine xL 9 q_assign ?_
              <;> refine aL_end (nav ?_) <;> try dsimp only)
            have hil : i = cs.length := by omega
            have hXe : X = cs.filter (wholeB S F) := by rw [hX, hil, List.take_length]
            obtain ⟨c0, t, rfl⟩ : ∃ c0 t, X = c0 :: t := by
              have hm : d ∈ X := by rw [hXe]; exact List.mem_filter.2 ⟨List.mem_of_getElem? hck, hW⟩
              cases X with
              | nil => simp at hm
              | cons c0 t => exact ⟨c0, t, rfl⟩
            dsimp only [cellsM, headL]
            have hap := merged_apart hc hXe.symm
            have hmem : ∀ c ∈ c0 :: t, c ∈ cs := fun c hm => (List.mem_filter.1 (hXe ▸ hm)).1
            have hc0l := hin.2.2 c0 (hmem c0 (by simp))
            refine aC_loop (ι := { x : Nat × Value × List Int // x.1 ≤ cs.length ∧ x.2.1.oneCell' = true ∧ x.2.2 = c0 ++ ((cs.take x.1).filter fun c => !wholeB S F c).flatten }) (fun k => ⟨[(1, _, _), (2, _, _), (6, _, _), (7, _, _), (9, .int .i64 k.1.1, pInt k.1.1)], [(2, _, _), (200, hov, .own 81 1 (c0 :: t).length (PV.val k.1.2.1 :: t.map pInts)), (201, k.1.2.1, .own 3 1 k.1.2.2.length (k.1.2.2.map pInt))]⟩) (fun k => cs.length - k.1.1) ⟨(0, h0, c0), Nat.zero_le _, ho0, (List.append_nil c0).symm⟩ (fun a w H => H.weaken ⟨rfl, rfl, rfl, rfl, rfl, trivial⟩ ⟨rfl, rfl, rfl, trivial⟩) ?_
            rintro ⟨⟨q, hv, D⟩, hq, hov1, hD⟩
            dsimp only
            dsimp only at hq hov1 hD
            have hDl : D.length ≤ 2000 := by
              have h1 := flat_sub (cs := cs) q (fun c => !wholeB S F c)
              rw [hD, List.length_append]; omega
            have hDm : (D.map pInt).length = D.length := List.length_map _
            refine nav ?_
            (refine aC_region ?_
              <;> refine xL 76 q_move ?_
              <;> refine xL 77 q_move ?_
              <;> refine xL 78 (q_len tSl92_LbW) ?_
              <;> refine xL 79 q_lss ?_
              <;> refine aL_end (nav ?_) <;> try dsimp only)
            first | refine cCd (fun hb79 => ?_) (fun hb79 => ?_) | refine cC (fun hb79 => ?_) (fun hb79 => ?_)
            · first
              | exact Bool.noConfusion hb79
              | (
               obtain ⟨cl, hx⟩ := get_some (show q < cs.length by omega)
               have e1 := map_at (f := pInts) hx
               have hcm := List.mem_of_getElem? hx
               have hcb := hin.1 cl hcm
               have hcll := hin.2.2 cl hcm
               have e2 : (cl.map pInt).length = cl.length * 1 := by rw [List.length_map, Nat.mul_one]
               have e4 : (cl.map pInt).all En.one = true := by rw [List.all_map, List.all_eq_true]; intro x _; rfl
               have s2 := filt_snoc (p := fun c => !wholeB S F c) hx
               refine nav ?_
               (refine aC_draw (fun i => ([] : List Nat).elem i) [2, 200, 201] (by kernel_rfl) ?_
                 <;> refine xD 0 82 rfl q_move ?_
                 <;> refine xD 1 83 rfl q_move ?_
                 <;> refine xD 2 84 rfl (q_idxN tSl92_LbW) ?_
                 <;> (refine yD 3 85 rfl (q_ld tNa81_LbW) fun v85 hv85 => ?_; cases hv85)
                 <;> refine xE 4 86 rfl (q_fldo 2 tFl86_3_LbW) ?_
                 <;> (refine yE 5 87 rfl (q_ldo 2 tNa78_LbW) fun v87 hv87 => ?_; cases hv87)
                 <;> (refine aD_one 6 (by kernel_rfl) ?_)
                 <;> (refine aW_call (d := 88) rfl (cA Tryz.call114 (rSome36_e cl n S hcb (by omega))) fun v88 hv88 => ?_; cases hv88)
                 <;> refine xE 7 89 rfl q_not ?_
                 <;> refine xE 8 90 rfl q_move ?_
                 <;> (refine bD 90 (fun hb90 => ?_) (fun hb90 => ?_) <;> (first | refine kD 9 91 rfl ?_ | refine xD 9 91 rfl q_move ?_))
                 <;> (first | refine kD 10 92 rfl ?_ | refine xD 10 92 rfl q_move ?_)
                 <;> (first | refine kD 11 93 rfl ?_ | refine xD 11 93 rfl (q_idxN tSl92_LbW) ?_)
                 <;> (first | refine kD 12 94 rfl ?_ | (refine yD 12 94 rfl (q_ld tNa81_LbW) fun v94 hv94 => ?_; cases hv94))
                 <;> (first | refine kD 13 95 rfl ?_ | refine xD 13 95 rfl (q_fldo 2 tFl86_4_LbW) ?_)
                 <;> (first | refine kD 14 96 rfl ?_ | (refine yD 14 96 rfl (q_ldo 2 tNa78_LbW) fun v96 hv96 => ?_; cases hv96))
                 <;> (refine aD_one 15 (by kernel_rfl) ?_)
                 <;> (first | (refine aW_call (d := 97) rfl (cA Tryz.call114 (rSome36_e cl n F hcb (by omega))) fun v97 hv97 => ?_; cases hv97) | (refine aW_run rfl fun w9 M9 N9 DQ back => ?_; refine kL 97 ?_; refine aL_end (back _ (nrm ?_))))
                 <;> (first | refine kD 16 98 rfl ?_ | refine xD 16 98 rfl q_not ?_)
                 <;> refine xE 17 99 rfl q_pick ?_
                 <;> refine aD_end (by kernel_rfl) (nav ?_)
                 <;> try dsimp only) <;> (
                first | refine cCd (fun hb99 => ?_) (fun hb99 => ?_) | refine cC (fun hb99 => ?_) (fun hb99 => ?_)
                · first
                  | exact Bool.noConfusion hb99
                  | (
                   refine nav ?_
                   (refine aC_draw (fun i => ([12] : List Nat).elem i) [2, 200] (by kernel_rfl) ?_
                     <;> refine xD 0 100 rfl q_move ?_
                     <;> refine xD 1 101 rfl q_move ?_
                     <;> refine xD 2 102 rfl q_move ?_
                     <;> refine xD 3 103 rfl q_move ?_
                     <;> refine xD 4 104 rfl (q_idxoN 200 tSl92_LbW) ?_
                     <;> (refine yD 5 105 rfl (q_ldo 200 tNa81_LbW) fun v105 hv105 => ?_; cases hv105)
                     <;> refine xD 6 106 rfl q_move ?_
                     <;> refine xE 7 107 rfl q_move ?_
                     <;> refine xE 8 108 rfl (q_idxN tSl92_LbW) ?_
                     <;> (refine yE 9 109 rfl (q_ld tNa81_LbW) fun v109 hv109 => ?_; cases hv109)
                     <;> (refine aD_one 10 (by kernel_rfl) ?_)
                     <;> (refine aW_run rfl fun w9 M9 N9 DQ back => ?_)
                     <;> refine s_apps 201 110 tEl81_LbW (fun h110 ho110 => ?_) e2 e4
                     <;> refine aL_end (back _ (nrm ?_))
                     <;> refine xE 11 111 rfl (q_idxoN 200 tSl92_LbW) ?_
                     <;> (refine aD_one 12 (by kernel_rfl) ?_)
                     <;> (refine aW_last rfl rfl (by kernel_rfl) fun DQ back => ?_)
                     <;> refine s_st 200 tNa81_LbW tSz81_LbW ?_
                     <;> refine aL_end (back _ (nav ?_))
                     <;> try dsimp only)
                   (refine aC_region ?_
                     <;> refine xL 80 q_move ?_
                     <;> refine xL 81 q_add ?_
                     <;> refine xL 9 q_assign ?_
                     <;> refine aL_end (nav ?_) <;> try dsimp only)
                   try refine aN_ent (relabel (l := 110) 201 rfl rfl) fun _ => ?_
                   try rw [show D.map pInt ++ cl.map pInt = (D ++ cl).map pInt by simp, show D.length + cl.length = (D ++ cl).length by simp]
                   first
                     | (exact aN_again (
                         ⟨(q + 1, h110, D ++ cl), by show q + 1 ≤ cs.length; omega, ho110, by show D ++ cl = _; rw [s2, if_pos (by unfold wholeB; simp [*]), hD]; simp⟩
                         ) (by show cs.length - (q + 1) < cs.length - q; omega) ⟨rfl, rfl, rfl, rfl, rfl, trivial⟩ ⟨rfl, rfl, rfl, trivial⟩)
                     | (exact aN_again (
                         ⟨(q + 1, hv, D), by show q + 1 ≤ cs.length; omega, hov1, by show D = _; rw [s2, if_neg (by unfold wholeB; simp [*]), List.append_nil, hD]⟩
                         ) (by show cs.length - (q + 1) < cs.length - q; omega) ⟨rfl, rfl, rfl, rfl, rfl, trivial⟩ ⟨rfl, rfl, rfl, trivial⟩))
                · first
                  | exact Bool.noConfusion hb99
                  | (
                   refine nav ?_
                   (refine aC_region ?_
                     <;> refine xL 80 q_move ?_
                     <;> refine xL 81 q_add ?_
                     <;> refine xL 9 q_assign ?_
                     <;> refine aL_end (nav ?_) <;> try dsimp only)
                   try refine aN_ent (relabel (l := 110) 201 rfl rfl) fun _ => ?_
                   try rw [show D.map pInt ++ cl.map pInt = (D ++ cl).map pInt by simp, show D.length + cl.length = (D ++ cl).length by simp]
                   first
                     | (exact aN_again (
                         ⟨(q + 1, h110, D ++ cl), by show q + 1 ≤ cs.length; omega, ho110, by show D ++ cl = _; rw [s2, if_pos (by unfold wholeB; simp [*]), hD]; simp⟩
                         ) (by show cs.length - (q + 1) < cs.length - q; omega) ⟨rfl, rfl, rfl, rfl, rfl, trivial⟩ ⟨rfl, rfl, rfl, trivial⟩)
                     | (exact aN_again (
                         ⟨(q + 1, hv, D), by show q + 1 ≤ cs.length; omega, hov1, by show D = _; rw [s2, if_neg (by unfold wholeB; simp [*]), List.append_nil, hD]⟩
                         ) (by show cs.length - (q + 1) < cs.length - q; omega) ⟨rfl, rfl, rfl, rfl, rfl, trivial⟩ ⟨rfl, rfl, rfl, trivial⟩))))
            · first
              | exact Bool.noConfusion hb79
              | (
               refine nav ?_
               have hql : q = cs.length := by omega
               have hDe : D = c0 ++ (cs.filter fun c => !wholeB S F c).flatten := by rw [hD, hql, List.take_length]
               rw [← hDe] at hap
               refine aC_ent (freezeCell (l := 200) (l' := 201) (j := 0) rfl rfl rfl rfl) fun _ => ?_
               rw [List.set_cons_zero, share_intl _ _ _ rfl]
               refine aC_ent (En.freeze (l := 200) (t := 6) rfl rfl) fun _ => ?_
               rw [shr_intss' _ _ _ (D :: t) (by rfl) (by rfl)]
               have htl : t.length ≤ 1000 := by simp only [List.length_cons] at hXl; omega
               have hbn : ∀ c ∈ D :: t, c ≠ [] ∧ c.length ≤ 1000000 := fun c hm => ⟨hap.2 c hm, by
                 rcases List.mem_cons.1 hm with rfl | hm
                 · omega
                 · have := hin.2.2 c (hmem c (by simp [hm])); omega⟩
               (refine aC_region ?_
                 <;> refine xL 112 q_move ?_
                 <;> (refine aL_cs 113 rfl rfl (Nat.le_of_ble_eq_true rfl) (cA Tryz.call115 (rByFirst_e (D :: t) hbn (by rw [List.length_cons]; omega) hap.1)) ?_; rintro p' ⟨out, hpo, hso, rfl⟩; refine ⟨rfl, ?_⟩; intro v113 hv113)
                 <;> refine xL 4 q_assign ?_
                 <;> refine aL_end (nav ?_) <;> try dsimp only)
               exact ret_shr (Tryz.results79) rfl ⟨out, by rw [merged_cons hXe.symm, ← hDe]; exact hpo, hso, rfl⟩)))))
theorem bools_put {n a : Nat} {f f' : Nat → Bool} {b : Bool} (hf : ∀ i, i < n → f' i = if i = a then b else f i) : (vec n fun i => pBool (f i)).set (a * 1) (pBool b) = vec n fun i => pBool (f' i) := by
  rw [Nat.mul_one, vec_set]
  refine vec_congr fun i hi => ?_
  rw [hf i hi]; split <;> rfl
theorem mark_put (k i : Nat) (G : Nat → Bool) (b : Bool) (h : b = G k) : (decide (i < k + 1) && G i) = if i = k then b else (decide (i < k) && G i) := by
  by_cases e : i = k
  · subst e; rw [if_pos rfl, decide_eq_true (Nat.lt_succ_self i), h]; rfl
  · rw [if_neg e]; congr 1; exact decide_eq_decide.2 (by omega)
set_option maxHeartbeats 2000000 in
theorem rLooped_e (l : List ByteArray) (n : Nat) (E R : Nat → Nat → Bool) (S F : Nat → Bool) (hl : l.length = n) (hn : n ≤ 1000) : AF Tryz.prog 80 [.agg (cView l n E R S F)] (fun p => (inL n S F = [] ∧ p = pIntss []) ∨ (inL n S F ≠ [] ∧ ∃ cs, Comps (marked n fun i => !S i && !F i) (togI E R 1) cs ∧ p = pIntss (loopR n E S F cs))) := by
  subst hl
  refine AF.of_body 115 Tryz.func80 rfl Tryz.ntmps80 (Nat.le_of_ble_eq_true rfl) ?_
  intro w0 M0 vs hl hv
  obtain ⟨v0, rfl⟩ := len1 hl
  clear hl hv
  dsimp only [cView]
  refine nav ?_
  (refine aC_region ?_
    <;> refine s_boxa 1 5 fun h1 => ?_
    <;> refine xL 2 q_assign ?_
    <;> refine aL_end (nav ?_) <;> try dsimp only)
  (refine aC_region ?_
    <;> refine xL 13 (q_fldo 1 tFl86_0_LbW) ?_
    <;> (refine yL 14 (q_ldo 1 tNa36_LbW) fun v14 hv14 => ?_; cases hv14)
    <;> refine xL 15 (q_len tSl36_LbW) ?_
    <;> refine s_make 16 tEl78_LbW fun h16 ho16 => ?_
    <;> refine xL 3 q_assign ?_
    <;> refine aL_end (nav ?_) <;> try dsimp only)
  (refine aC_region ?_
    <;> refine xL 4 q_assign ?_
    <;> refine aL_end (nav ?_) <;> try dsimp only)
  (refine aC_region ?_
    <;> refine xL 5 q_assign ?_
    <;> refine aL_end (nav ?_) <;> try dsimp only)
  rw [show List.replicate l.length (PV.val (.bool false)) = vec l.length (fun i => pBool (decide (i < 0) && (!S i && !F i))) by rw [vec_const]; exact vec_congr fun i _ => by rw [decide_eq_false (Nat.not_lt_zero i)]; rfl]
  refine aC_ent (nilOwn 200 3 1 rfl) fun _ => ?_
  refine aC_loop (ι := { x : Nat × Value × List Int // x.1 ≤ l.length ∧ x.2.1.oneCell' = true ∧ x.2.2 = inL x.1 S F }) (fun k => ⟨[(1, _, _), (3, _, _), (4, k.1.2.1, .val k.1.2.1), (5, .int .i64 k.1.1, pInt k.1.1)], [(1, _, _), (16, h16, .own 4 1 l.length (vec l.length fun i => pBool (decide (i < k.1.1) && (!S i && !F i)))), (200, k.1.2.1, .own 3 1 k.1.2.2.length (k.1.2.2.map pInt))]⟩) (fun k => l.length - k.1.1) ⟨(0, .slice none 0 0, []), Nat.zero_le _, rfl, rfl⟩ (fun a w H => H.weaken ⟨rfl, rfl, rfl, rfl, trivial⟩ ⟨rfl, rfl, rfl, trivial⟩) ?_
  rintro ⟨⟨k, ha, A⟩, hk, hoa, hA⟩
  dsimp only
  dsimp only at hk hoa hA
  have hAl : A.length ≤ 1000 := by have := (inL_bd (n := k) (S := S) (F := F)).1; rw [hA]; omega
  have hAm : (A.map pInt).length = A.length := List.length_map _
  have e0 := vec_len l.length (fun i => pBool (decide (i < k) && (!S i && !F i)))
  refine nav ?_
  (refine aC_region ?_
    <;> refine xL 17 q_move ?_
    <;> refine xL 18 (q_fldo 1 tFl86_0_LbW) ?_
    <;> (refine yL 19 (q_ldo 1 tNa36_LbW) fun v19 hv19 => ?_; cases hv19)
    <;> refine xL 20 (q_len tSl36_LbW) ?_
    <;> refine xL 21 q_lss ?_
    <;> refine aL_end (nav ?_) <;> try dsimp only)
  first | refine cCd (fun hb21 => ?_) (fun hb21 => ?_) | refine cC (fun hb21 => ?_) (fun hb21 => ?_)
  · first
    | exact Bool.noConfusion hb21
    | (
     have hkn : k < l.length := by omega
     have eS := vec_at1 (fun j => pBool (S j)) hkn
     have eF := vec_at1 (fun j => pBool (F j)) hkn
     have s1 := inL_succ k S F
     have e5 : (vec l.length fun i => pBool (decide (i < k + 1) && (!S i && !F i)))[k * 1]? = some (pBool (!S k && !F k)) := by rw [vec_at1 _ hkn, decide_eq_true (Nat.lt_succ_self k)]; rfl
     refine nav ?_
     (refine aC_region ?_
       <;> refine xL 24 q_move ?_
       <;> refine xL 25 q_move ?_
       <;> refine xL 26 (q_fldo 1 tFl86_3_LbW) ?_
       <;> (refine yL 27 (q_ldo 1 tNa78_LbW) fun v27 hv27 => ?_; cases hv27)
       <;> refine xL 28 q_move ?_
       <;> refine xL 29 (q_idxN tSl78_LbW) ?_
       <;> (refine yL 30 (q_ld tNa4_LbW) fun v30 hv30 => ?_; cases hv30)
       <;> refine xL 31 q_not ?_
       <;> refine xL 32 q_move ?_
       <;> (refine bL 32 (fun hb32 => ?_) (fun hb32 => ?_) <;> (first | refine kL 33 ?_ | refine xL 33 (q_fldo 1 tFl86_4_LbW) ?_))
       <;> (first | refine kL 34 ?_ | (refine yL 34 (q_ldo 1 tNa78_LbW) fun v34 hv34 => ?_; cases hv34))
       <;> (first | refine kL 35 ?_ | refine xL 35 q_move ?_)
       <;> (first | refine kL 36 ?_ | refine xL 36 (q_idxN tSl78_LbW) ?_)
       <;> (first | refine kL 37 ?_ | (refine yL 37 (q_ld tNa4_LbW) fun v37 hv37 => ?_; cases hv37))
       <;> (first | refine kL 38 ?_ | refine xL 38 q_not ?_)
       <;> refine xL 39 q_pick ?_
       <;> refine xL 40 (q_idxoN 16 tSl78_LbW) ?_
       <;> refine s_st 16 tNa4_LbW tSz4_LbW ?_
       <;> refine aL_end (nav ?_) <;> try dsimp only) <;> (
      rw [bools_put (f' := fun i => decide (i < k + 1) && (!S i && !F i)) fun i _ => mark_put k i (fun i => !S i && !F i) _ (by simp [*])]
      (refine aC_region ?_
        <;> refine xL 41 q_move ?_
        <;> refine xL 42 q_move ?_
        <;> refine xL 43 (q_idxoN 16 tSl78_LbW) ?_
        <;> (refine yL 44 (q_ldo 16 tNa4_LbW) fun v44 hv44 => ?_; cases hv44)
        <;> refine xL 45 q_not ?_
        <;> refine aL_end (nav ?_) <;> try dsimp only)
      first | refine cCd (fun hb45 => ?_) (fun hb45 => ?_) | refine cC (fun hb45 => ?_) (fun hb45 => ?_)
      · first
        | exact Bool.noConfusion hb45
        | (
         refine nav ?_
         (refine aC_region ?_
           <;> refine xL 46 q_move ?_
           <;> refine xL 47 q_move ?_
           <;> refine s_lit1 (kk := 1) 48 tEl81_LbW fun h48 ho48 => ?_
           <;> refine s_app 200 48 49 tEl81_LbW fun h49 ho49 => ?_
           <;> refine xL 4 q_assign ?_
           <;> refine aL_end (nav ?_) <;> try dsimp only)
         (refine aC_region ?_
           <;> refine xL 22 q_move ?_
           <;> refine xL 23 q_add ?_
           <;> refine xL 5 q_assign ?_
           <;> refine aL_end (nav ?_) <;> try dsimp only)
         try refine aN_ent (relabel (l := 49) 200 rfl rfl) fun _ => ?_
         try rw [show A.map pInt ++ [pInt k] = (A ++ [(k : Int)]).map pInt by simp, show A.length + 1 = (A ++ [(k : Int)]).length by simp]
         first
           | (exact aN_again (
               ⟨(k + 1, h49, A ++ [(k : Int)]), by show k + 1 ≤ l.length; omega, ho49, by show A ++ [(k : Int)] = _; rw [s1, if_pos (by cases hS : S k <;> cases hF : F k <;> simp_all), hA]⟩
               ) (by show l.length - (k + 1) < l.length - k; omega) ⟨rfl, rfl, rfl, rfl, trivial⟩ ⟨rfl, rfl, rfl, trivial⟩)
           | (exact aN_again (
               ⟨(k + 1, ha, A), by show k + 1 ≤ l.length; omega, hoa, by show A = _; rw [s1, if_neg (by cases hS : S k <;> cases hF : F k <;> simp_all), List.append_nil, hA]⟩
               ) (by show l.length - (k + 1) < l.length - k; omega) ⟨rfl, rfl, rfl, rfl, trivial⟩ ⟨rfl, rfl, rfl, trivial⟩))
      · first
        | exact Bool.noConfusion hb45
        | (
         refine nav ?_
         (refine aC_region ?_
           <;> refine xL 22 q_move ?_
           <;> refine xL 23 q_add ?_
           <;> refine xL 5 q_assign ?_
           <;> refine aL_end (nav ?_) <;> try dsimp only)
         try refine aN_ent (relabel (l := 49) 200 rfl rfl) fun _ => ?_
         try rw [show A.map pInt ++ [pInt k] = (A ++ [(k : Int)]).map pInt by simp, show A.length + 1 = (A ++ [(k : Int)]).length by simp]
         first
           | (exact aN_again (
               ⟨(k + 1, h49, A ++ [(k : Int)]), by show k + 1 ≤ l.length; omega, ho49, by show A ++ [(k : Int)] = _; rw [s1, if_pos (by cases hS : S k <;> cases hF : F k <;> simp_all), hA]⟩
               ) (by show l.length - (k + 1) < l.length - k; omega) ⟨rfl, rfl, rfl, rfl, trivial⟩ ⟨rfl, rfl, rfl, trivial⟩)
           | (exact aN_again (
               ⟨(k + 1, ha, A), by show k + 1 ≤ l.length; omega, hoa, by show A = _; rw [s1, if_neg (by cases hS : S k <;> cases hF : F k <;> simp_all), List.append_nil, hA]⟩
               ) (by show l.length - (k + 1) < l.length - k; omega) ⟨rfl, rfl, rfl, rfl, trivial⟩ ⟨rfl, rfl, rfl, trivial⟩))))
  · first
    | exact Bool.noConfusion hb21
    | (
     refine nav ?_
     obtain rfl : k = l.length := by omega
     have hAi : ∀ x ∈ A, 0 ≤ x ∧ x < l.length := fun x hx => by rw [hA] at hx; exact inL_bd.2 x hx
     rw [show (vec l.length fun i => pBool (decide (i < l.length) && (!S i && !F i))) = vec l.length fun i => pBool (!S i && !F i) from vec_congr fun i hi => by rw [decide_eq_true hi]; rfl]
     (refine aC_region ?_
       <;> refine xL 50 q_move ?_
       <;> refine xL 51 (q_leno 200 tSl81_LbW) ?_
       <;> refine xL 52 q_eql ?_
       <;> refine aL_end (nav ?_) <;> try dsimp only)
     first | refine cCd (fun hb52 => ?_) (fun hb52 => ?_) | refine cC (fun hb52 => ?_) (fun hb52 => ?_)
     · first
       | exact Bool.noConfusion hb52
       | (
        refine nav ?_
        (refine aC_region ?_
          <;> refine xL 2 q_assign ?_
          <;> refine aL_end (nav ?_) <;> try dsimp only)
        refine aR_ent (nilOwn 201 81 1 rfl) fun _ => ?_
        refine aR_ent (En.freeze (l := 201) (t := 2) rfl rfl) fun _ => ?_
        rw [shr_intss' _ _ _ [] (by rfl) (by rfl)]
        exact ret_shr (Tryz.results80) rfl (.inl ⟨by rw [← hA]; exact List.eq_nil_of_length_eq_zero (by omega), rfl⟩))
     · first
       | exact Bool.noConfusion hb52
       | (
        refine nav ?_
        have hAp : 0 < A.length := by omega
        refine aC_ent (En.freeze (l := 200) (t := 4) rfl rfl) fun _ => ?_
        rw [share_intl _ _ _ rfl]
        refine aC_ent (En.freeze (l := 16) (t := 3) rfl rfl) fun _ => ?_
        rw [show share (.own 4 1 l.length (vec l.length fun i => pBool (!S i && !F i))) = pBools l.length (fun i => !S i && !F i) from share_bools _ _ _]
        have eA1 : (A.map pInt).length = A.length * 1 := by rw [List.length_map, Nat.mul_one]
        have eA2 : (A.map pInt).all En.one = true := by rw [List.all_map, List.all_eq_true]; intro x _; rfl
        (refine aC_region ?_
          <;> (refine yL 53 (q_ldao 1 tAgg86_LbW) fun v53 hv53 => ?_; cases hv53)
          <;> refine xL 54 q_move ?_
          <;> (refine aL_co 55 rfl rfl (Nat.le_of_ble_eq_true rfl) rfl (cA Tryz.call77 (rClasses_e l l.length E R S F 1 (fun i => !S i && !F i) rfl hn)) ?_; rintro p' ⟨cs, hcs, rfl⟩; refine ⟨rfl, fun h55 ho55 => ?_⟩; refine aL_ent (En.freeze (l := 55) (t := 55) rfl rfl) fun _ => ?_; rw [shr_intss _ _ _ rfl])
          <;> refine xL 6 q_assign ?_
          <;> refine aL_end (nav ?_) <;> try dsimp only)
        (refine aC_region ?_
          <;> refine s_lit0 56 tEl81_LbW fun h56 ho56 => ?_
          <;> refine xL 57 q_move ?_
          <;> refine s_apps 56 58 tEl81_LbW (fun h58 ho58 => ?_) eA1 eA2
          <;> refine s_lit0 59 tEl92_LbW fun h59 ho59 => ?_
          <;> refine xL 7 q_assign ?_
          <;> refine xL 8 q_assign ?_
          <;> refine aL_end (nav ?_) <;> try dsimp only)
        (refine aC_region ?_
          <;> refine xL 9 q_assign ?_
          <;> refine aL_end (nav ?_) <;> try dsimp only)
        have hin := comps_inL (by have h := hcs; rw [marked_out] at h; exact h)
        have hBl := (outL_bd (n := l.length) (S := S) (F := F)).1
        have hBi : ∀ x ∈ outL l.length S F, 0 ≤ x ∧ x < l.length := outL_bd.2
        refine aC_ent (relabel (l := 59) 200 rfl rfl) fun _ => ?_
        refine aC_ent (relabel (l := 58) 201 rfl rfl) fun _ => ?_
        rw [Nat.zero_add A.length]
        try rw [List.nil_append]
        refine aC_loop (ι := { x : Nat × Value × Value × List (List Int) × List Int // x.1 ≤ cs.length ∧ x.2.1.oneCell' = true ∧ x.2.2.1.oneCell' = true ∧ x.2.2.2.1 = (cs.take x.1).filter (okL l.length E S F) ∧ x.2.2.2.2 = A ++ ((cs.take x.1).filter fun c => !okL l.length E S F c).flatten }) (fun k => ⟨[(1, _, _), (4, _, _), (6, _, _), (8, k.1.2.1, .val k.1.2.1), (7, k.1.2.2.1, .val k.1.2.2.1), (9, .int .i64 k.1.1, pInt k.1.1)], [(1, _, _), (200, k.1.2.1, .own 81 1 k.1.2.2.2.1.length (k.1.2.2.2.1.map pInts)), (201, k.1.2.2.1, .own 3 1 k.1.2.2.2.2.length (k.1.2.2.2.2.map pInt))]⟩) (fun k => cs.length - k.1.1) ⟨(0, h59, h58, [], A), Nat.zero_le _, ho59, ho58, rfl, (List.append_nil A).symm⟩ (fun a w H => H.weaken ⟨rfl, rfl, rfl, rfl, rfl, rfl, trivial⟩ ⟨rfl, rfl, rfl, trivial⟩) ?_
        rintro ⟨⟨i, hcv, hdv, C, D⟩, hi, hoc, hod, hC, hD⟩
        dsimp only
        dsimp only at hi hoc hod hC hD
        have hCl : C.length ≤ 1000 := by
          have := List.length_filter_le (okL l.length E S F) (cs.take i)
          rw [hC]; rw [List.length_take] at this; omega
        have hDl : D.length ≤ 2000 := by
          have h1 := flat_sub (cs := cs) i (fun c => !okL l.length E S F c)
          rw [hD, List.length_append]; omega
        have hCm : (C.map pInts).length = C.length := List.length_map _
        have hDm : (D.map pInt).length = D.length := List.length_map _
        refine nav ?_
        (refine aC_region ?_
          <;> refine xL 60 q_move ?_
          <;> refine xL 61 q_move ?_
          <;> refine xL 62 (q_len tSl92_LbW) ?_
          <;> refine xL 63 q_lss ?_
          <;> refine aL_end (nav ?_) <;> try dsimp only)
        first | refine cCd (fun hb63 => ?_) (fun hb63 => ?_) | refine cC (fun hb63 => ?_) (fun hb63 => ?_)
        · first
          | exact Bool.noConfusion hb63
          | (
           obtain ⟨cl, hx⟩ := get_some (show i < cs.length by omega)
           have e1 := map_at (f := pInts) hx
           have hcm := List.mem_of_getElem? hx
           have hcll := hin.2.2.1 cl hcm
           have s3 := filt_snoc (p := okL l.length E S F) hx
           have s4 := filt_snoc (p := fun c => !okL l.length E S F c) hx
           have e2 : (cl.map pInt).length = cl.length * 1 := by rw [List.length_map, Nat.mul_one]
           have e3 : (cl.map pInt).all En.one = true := by rw [List.all_map, List.all_eq_true]; intro x _; rfl
           refine nav ?_
           (refine aC_region ?_
             <;> refine xL 10 q_assign ?_
             <;> refine aL_end (nav ?_) <;> try dsimp only)
           (refine aC_region ?_
             <;> refine xL 11 q_assign ?_
             <;> refine aL_end (nav ?_) <;> try dsimp only)
           refine aC_loop (ι := { x : Nat × Bool // x.1 ≤ cl.length ∧ x.2 = (cl.take x.1).all fun x => A.all fun y => loopsB l.length E S F y.toNat x.toNat }) (fun k => ⟨[(1, _, _), (4, _, _), (6, _, _), (7, _, _), (8, _, _), (9, _, _), (10, .bool k.1.2, pBool k.1.2), (11, .int .i64 k.1.1, pInt k.1.1)], [(1, _, _), (200, _, _), (201, _, _)]⟩) (fun k => cl.length - k.1.1) ⟨(0, true), Nat.zero_le _, rfl⟩ (fun a w H => H.weaken ⟨rfl, rfl, rfl, rfl, rfl, rfl, rfl, rfl, trivial⟩ ⟨rfl, rfl, rfl, trivial⟩) ?_
           rintro ⟨⟨q, b⟩, hq, hbe⟩
           dsimp only
           dsimp only at hq hbe
           refine nav ?_
           (refine aC_region ?_
             <;> refine xL 66 q_move ?_
             <;> refine xL 67 q_move ?_
             <;> refine xL 68 q_move ?_
             <;> refine xL 69 (q_idxN tSl92_LbW) ?_
             <;> (refine yL 70 (q_ld tNa81_LbW) fun v70 hv70 => ?_; cases hv70)
             <;> refine xL 71 (q_len tSl81_LbW) ?_
             <;> refine xL 72 q_lss ?_
             <;> refine aL_end (nav ?_) <;> try dsimp only)
           first | refine cCd (fun hb72 => ?_) (fun hb72 => ?_) | refine cC (fun hb72 => ?_) (fun hb72 => ?_)
           · first
             | exact Bool.noConfusion hb72
             | (
              obtain ⟨u, hu⟩ := get_some (show q < cl.length by omega)
              have e4 := map_at (f := pInt) hu
              have hui := hBi u (hin.1 cl hcm u (List.mem_of_getElem? hu))
              have s5 := all_snoc (p := fun x : Int => A.all fun y => loopsB l.length E S F y.toNat x.toNat) hu
              refine nav ?_
              (refine aC_region ?_
                <;> refine xL 12 q_assign ?_
                <;> refine aL_end (nav ?_) <;> try dsimp only)
              refine aC_loop (ι := { x : Nat × Bool // x.1 ≤ A.length ∧ x.2 = (b && (A.take x.1).all fun y => loopsB l.length E S F y.toNat u.toNat) }) (fun k => ⟨[(1, _, _), (4, _, _), (6, _, _), (7, _, _), (8, _, _), (9, _, _), (11, _, _), (10, .bool k.1.2, pBool k.1.2), (12, .int .i64 k.1.1, pInt k.1.1)], [(1, _, _), (200, _, _), (201, _, _)]⟩) (fun k => A.length - k.1.1) ⟨(0, b), Nat.zero_le _, (Bool.and_true b).symm⟩ (fun a w H => H.weaken ⟨rfl, rfl, rfl, rfl, rfl, rfl, rfl, rfl, rfl, trivial⟩ ⟨rfl, rfl, rfl, trivial⟩) ?_
              rintro ⟨⟨s, b2⟩, hs, hb2e⟩
              dsimp only
              dsimp only at hs hb2e
              refine nav ?_
              (refine aC_region ?_
                <;> refine xL 75 q_move ?_
                <;> refine xL 76 q_move ?_
                <;> refine xL 77 (q_len tSl81_LbW) ?_
                <;> refine xL 78 q_lss ?_
                <;> refine aL_end (nav ?_) <;> try dsimp only)
              first | refine cCd (fun hb78 => ?_) (fun hb78 => ?_) | refine cC (fun hb78 => ?_) (fun hb78 => ?_)
              · first
                | exact Bool.noConfusion hb78
                | (
                 obtain ⟨y, hy⟩ := get_some (show s < A.length by omega)
                 have e5 := map_at (f := pInt) hy
                 have hyi := hAi y (List.mem_of_getElem? hy)
                 have s6 := all_snoc (p := fun y : Int => loopsB l.length E S F y.toNat u.toNat) hy
                 have hL := rLoops_e l l.length E R S F y.toNat u.toNat rfl hn (by omega) (by omega)
                 rw [show ((y.toNat : Nat) : Int) = y by omega, show ((u.toNat : Nat) : Int) = u by omega] at hL
                 dsimp only [cView] at hL
                 refine nav ?_
                 (refine aC_draw (fun i => ([] : List Nat).elem i) [1, 200, 201] (by kernel_rfl) ?_
                   <;> refine xE 0 81 rfl q_move ?_
                   <;> refine xE 1 82 rfl q_move ?_
                   <;> (refine bD 82 (fun hb82 => ?_) (fun hb82 => ?_) <;> (first | refine kD 2 83 rfl ?_ | (refine yD 2 83 rfl (q_ldao 1 tAgg86_LbW) fun v83 hv83 => ?_; cases hv83)))
                   <;> (first | refine kD 3 84 rfl ?_ | refine xD 3 84 rfl q_move ?_)
                   <;> (first | refine kD 4 85 rfl ?_ | refine xD 4 85 rfl q_move ?_)
                   <;> (first | refine kD 5 86 rfl ?_ | refine xD 5 86 rfl (q_idxN tSl81_LbW) ?_)
                   <;> (first | refine kD 6 87 rfl ?_ | (refine yD 6 87 rfl (q_ld tNa3_LbW) fun v87 hv87 => ?_; cases hv87))
                   <;> (first | refine kD 7 88 rfl ?_ | refine xD 7 88 rfl q_move ?_)
                   <;> (first | refine kD 8 89 rfl ?_ | refine xD 8 89 rfl q_move ?_)
                   <;> (first | refine kD 9 90 rfl ?_ | refine xD 9 90 rfl (q_idxN tSl92_LbW) ?_)
                   <;> (first | refine kD 10 91 rfl ?_ | (refine yD 10 91 rfl (q_ld tNa81_LbW) fun v91 hv91 => ?_; cases hv91))
                   <;> (first | refine kD 11 92 rfl ?_ | refine xD 11 92 rfl q_move ?_)
                   <;> (first | refine kD 12 93 rfl ?_ | refine xD 12 93 rfl (q_idxN tSl81_LbW) ?_)
                   <;> (first | refine kD 13 94 rfl ?_ | (refine yD 13 94 rfl (q_ld tNa3_LbW) fun v94 hv94 => ?_; cases hv94))
                   <;> (refine aD_one 14 (by kernel_rfl) ?_)
                   <;> (first | (refine aW_call (d := 95) rfl (cA Tryz.call107 hL) fun v95 hv95 => ?_; cases hv95) | (refine aW_run rfl fun w9 M9 N9 DQ back => ?_; refine kL 95 ?_; refine aL_end (back _ (nrm ?_))))
                   <;> refine xE 15 96 rfl q_pick ?_
                   <;> refine xE 16 10 rfl q_assign ?_
                   <;> refine aD_end (by kernel_rfl) (nav ?_)
                   <;> try dsimp only) <;> (
                  (refine aC_region ?_
                    <;> refine xL 79 q_move ?_
                    <;> refine xL 80 q_add ?_
                    <;> refine xL 12 q_assign ?_
                    <;> refine aL_end (nav ?_) <;> try dsimp only)
                  first
                    | (exact aN_again (
                        ⟨(s + 1, loopsB l.length E S F y.toNat u.toNat), by show s + 1 ≤ A.length; omega, by show loopsB l.length E S F y.toNat u.toNat = _; rw [s6, ← Bool.and_assoc, ← hb2e, hb82, Bool.true_and]⟩
                        ) (by show A.length - (s + 1) < A.length - s; omega) ⟨rfl, rfl, rfl, rfl, rfl, rfl, rfl, rfl, rfl, trivial⟩ ⟨rfl, rfl, rfl, trivial⟩)
                    | (exact aN_again (
                        ⟨(s + 1, false), by show s + 1 ≤ A.length; omega, by show false = _; rw [s6, ← Bool.and_assoc, ← hb2e, hb82, Bool.false_and]⟩
                        ) (by show A.length - (s + 1) < A.length - s; omega) ⟨rfl, rfl, rfl, rfl, rfl, rfl, rfl, rfl, rfl, trivial⟩ ⟨rfl, rfl, rfl, trivial⟩)))
              · first
                | exact Bool.noConfusion hb78
                | (
                 refine nav ?_
                 (refine aC_region ?_
                   <;> refine xL 73 q_move ?_
                   <;> refine xL 74 q_add ?_
                   <;> refine xL 11 q_assign ?_
                   <;> refine aL_end (nav ?_) <;> try dsimp only)
                 refine aN_again (
                   ⟨(q + 1, b2), by show q + 1 ≤ cl.length; omega, by show b2 = _; rw [s5, ← hbe, hb2e, List.take_of_length_le (by omega)]⟩
                   ) (by show cl.length - (q + 1) < cl.length - q; omega) ⟨rfl, rfl, rfl, rfl, rfl, rfl, rfl, rfl, trivial⟩ ⟨rfl, rfl, rfl, trivial⟩))
           · first
             | exact Bool.noConfusion hb72
             | (
              refine nav ?_
              have hbo : okL l.length E S F cl = b := by unfold okL; rw [← hA, hbe, List.take_of_length_le (by omega)]
              (refine aC_region ?_
                <;> refine xL 97 q_move ?_
                <;> refine aL_end (nav ?_) <;> try dsimp only)
              first | refine cCd (fun hb97 => ?_) (fun hb97 => ?_) | refine cC (fun hb97 => ?_) (fun hb97 => ?_)
              · first
                | exact Bool.noConfusion hb97
                | (
                 refine nav ?_
                 (refine aC_region ?_
                   <;> refine xL 98 q_move ?_
                   <;> refine xL 99 q_move ?_
                   <;> refine xL 100 q_move ?_
                   <;> refine xL 101 (q_idxN tSl92_LbW) ?_
                   <;> (refine yL 102 (q_ld tNa81_LbW) fun v102 hv102 => ?_; cases hv102)
                   <;> refine s_lit1 (kk := 1) 103 tEl92_LbW fun h103 ho103 => ?_
                   <;> refine s_app 200 103 104 tEl92_LbW fun h104 ho104 => ?_
                   <;> refine xL 8 q_assign ?_
                   <;> refine aL_end (nav ?_) <;> try dsimp only)
                 (refine aC_region ?_
                   <;> refine xL 64 q_move ?_
                   <;> refine xL 65 q_add ?_
                   <;> refine xL 9 q_assign ?_
                   <;> refine aL_end (nav ?_) <;> try dsimp only)
                 try refine aN_ent (relabel (l := 104) 200 rfl rfl) fun _ => ?_
                 try refine aN_ent (relabel (l := 110) 201 rfl rfl) fun _ => ?_
                 try rw [show C.map pInts ++ [pInts cl] = (C ++ [cl]).map pInts by simp, show C.length + 1 = (C ++ [cl]).length by simp]
                 try rw [show D.map pInt ++ cl.map pInt = (D ++ cl).map pInt by simp, show D.length + cl.length = (D ++ cl).length by simp]
                 first
                   | (exact aN_again (
                       ⟨(i + 1, h104, hdv, C ++ [cl], D), by show i + 1 ≤ cs.length; omega, ho104, hod, by show C ++ [cl] = _; rw [s3, if_pos (by rw [hbo]; exact hb97), hC], by show D = _; rw [s4, if_neg (by rw [hbo, hb97]; decide), List.append_nil, hD]⟩
                       ) (by show cs.length - (i + 1) < cs.length - i; omega) ⟨rfl, rfl, rfl, rfl, rfl, rfl, trivial⟩ ⟨rfl, rfl, rfl, trivial⟩)
                   | (exact aN_again (
                       ⟨(i + 1, hcv, h110, C, D ++ cl), by show i + 1 ≤ cs.length; omega, hoc, ho110, by show C = _; rw [s3, if_neg (by rw [hbo, hb97]; decide), List.append_nil, hC], by show D ++ cl = _; rw [s4, if_pos (by rw [hbo, hb97]; rfl), hD]; simp⟩
                       ) (by show cs.length - (i + 1) < cs.length - i; omega) ⟨rfl, rfl, rfl, rfl, rfl, rfl, trivial⟩ ⟨rfl, rfl, rfl, trivial⟩))
              · first
                | exact Bool.noConfusion hb97
                | (
                 refine nav ?_
                 (refine aC_region ?_
                   <;> refine xL 105 q_move ?_
                   <;> refine xL 106 q_move ?_
                   <;> refine xL 107 q_move ?_
                   <;> refine xL 108 (q_idxN tSl92_LbW) ?_
                   <;> (refine yL 109 (q_ld tNa81_LbW) fun v109 hv109 => ?_; cases hv109)
                   <;> refine s_apps 201 110 tEl81_LbW (fun h110 ho110 => ?_) e2 e3
                   <;> refine xL 7 q_assign ?_
                   <;> refine aL_end (nav ?_) <;> try dsimp only)
                 (refine aC_region ?_
                   <;> refine xL 64 q_move ?_
                   <;> refine xL 65 q_add ?_
                   <;> refine xL 9 q_assign ?_
                   <;> refine aL_end (nav ?_) <;> try dsimp only)
                 try refine aN_ent (relabel (l := 104) 200 rfl rfl) fun _ => ?_
                 try refine aN_ent (relabel (l := 110) 201 rfl rfl) fun _ => ?_
                 try rw [show C.map pInts ++ [pInts cl] = (C ++ [cl]).map pInts by simp, show C.length + 1 = (C ++ [cl]).length by simp]
                 try rw [show D.map pInt ++ cl.map pInt = (D ++ cl).map pInt by simp, show D.length + cl.length = (D ++ cl).length by simp]
                 first
                   | (exact aN_again (
                       ⟨(i + 1, h104, hdv, C ++ [cl], D), by show i + 1 ≤ cs.length; omega, ho104, hod, by show C ++ [cl] = _; rw [s3, if_pos (by rw [hbo]; exact hb97), hC], by show D = _; rw [s4, if_neg (by rw [hbo, hb97]; decide), List.append_nil, hD]⟩
                       ) (by show cs.length - (i + 1) < cs.length - i; omega) ⟨rfl, rfl, rfl, rfl, rfl, rfl, trivial⟩ ⟨rfl, rfl, rfl, trivial⟩)
                   | (exact aN_again (
                       ⟨(i + 1, hcv, h110, C, D ++ cl), by show i + 1 ≤ cs.length; omega, hoc, ho110, by show C = _; rw [s3, if_neg (by rw [hbo, hb97]; decide), List.append_nil, hC], by show D ++ cl = _; rw [s4, if_pos (by rw [hbo, hb97]; rfl), hD]; simp⟩
                       ) (by show cs.length - (i + 1) < cs.length - i; omega) ⟨rfl, rfl, rfl, rfl, rfl, rfl, trivial⟩ ⟨rfl, rfl, rfl, trivial⟩))))
        · first
          | exact Bool.noConfusion hb63
          | (
           refine nav ?_
           have hil : i = cs.length := by omega
           have hCe : C = cs.filter (okL l.length E S F) := by rw [hC, hil, List.take_length]
           have hDe : D = A ++ (cs.filter fun c => !okL l.length E S F c).flatten := by rw [hD, hil, List.take_length]
           refine aC_ent (En.freeze (l := 201) (t := 7) rfl rfl) fun _ => ?_
           rw [share_intl _ _ _ rfl]
           refine aC_ent (En.freeze (l := 200) (t := 8) rfl rfl) fun _ => ?_
           rw [shr_intss _ _ _ rfl]
           dsimp only [pIntss]
           have e6 : (C.map pInts).length = C.length * 1 := by rw [List.length_map, Nat.mul_one]
           have e7 : (C.map pInts).all En.one = true := by rw [List.all_map, List.all_eq_true]; intro x _; rfl
           (refine aC_region ?_
             <;> refine xL 111 q_move ?_
             <;> refine s_lit1 (kk := 1) 112 tEl92_LbW fun h112 ho112 => ?_
             <;> refine xL 113 q_move ?_
             <;> refine s_apps 112 114 tEl92_LbW (fun h114 ho114 => ?_) e6 e7
             <;> refine xL 2 q_assign ?_
             <;> refine aL_end (nav ?_) <;> try dsimp only)
           refine aR_ent (En.freeze (l := 114) (t := 2) rfl rfl) fun _ => ?_
           rw [shr_intss' _ _ _ (loopR l.length E S F cs) (by unfold loopR; rw [← hA, ← hCe, ← hDe]; rfl) (by unfold loopR; rw [← hCe, List.length_cons]; omega)]
           exact ret_shr (Tryz.results80) rfl (.inr ⟨by rw [← hA]; exact List.length_pos_iff.1 hAp, cs, hcs, rfl⟩))))
end Go.Proofs.YtoanjgpdepaciaaGreat
